-- laid by a program of this session (wip/lay/lay.py); Lean checks it
import Derived.Test.YtodehmbgcncnhaaPFnExactRatePartsx0
import Derived.Test.YtodehmbgcncnhaaPFnExactRatePartsx4
namespace Go.Proofs.Ytodehmbgcncnhaa.PFnExactRateParts
open Go.RowKit Go.Proofs.YtodehmbgcncnhaaW.PrintWords Go.Proofs.YtodehmbgcncnhaaW.PrintLast Go.Proofs.YtodehmbgcncnhaaW.PrintMore
attribute [local go_sem] max2_int min2_int max_two min_two max_three min_three max_four min_four   -- for this text's walks alone
set_option linter.unusedVariables false
set_option linter.unusedSimpArgs false

/-! ### impl_TariffsOk: function 18 -/
/-- The keys of the map: a zone and a tick. -/
def keyTZ (x : Int × Int) : Value := .agg #[.int .i64 x.1, .int .i64 x.2]
theorem chkTZ (e : Bool) (a b : Int) (d : Nat) (w : World) : (Instr.checkKey e (d + 2) 68 (.agg #[.int .i64 a, .int .i64 b])).run Try.prog w = .ok () w := by
  rw [Instr.checkKey, Sem.run_bind, run_underlying Try.underlying68]
  simp only [Result.andThen_ok]
  have h3 : ∀ x : Int, (Instr.checkKey e (d + 1) 3 (.int .i64 x)).run Try.prog w = .ok () w := by
    intro x
    rw [Instr.checkKey, Sem.run_bind, run_underlying Try.underlying3]
    rfl
  have hs : (sizeOf 3).run Try.prog w = .ok 1 w := by kernel_rfl
  have p0 : (part 3 #[.int .i64 a, .int .i64 b] 0).run Try.prog w = .ok (.int .i64 a) w := by kernel_rfl
  have p1 : (part 3 #[.int .i64 a, .int .i64 b] 1).run Try.prog w = .ok (.int .i64 b) w := by kernel_rfl
  simp [Std.Legacy.Range.forIn_eq_forIn_range', Std.Legacy.Range.size, Nat.sub_zero, Nat.add_sub_cancel, Nat.div_one, List.range'_succ, List.range'_zero, List.forIn_cons, List.forIn_nil, hs, p0, p1, h3]
theorem eqTZ (d : Nat) (a b a' b' : Int) (w : World) : (Op.equalIn (d + 2) 68 (.agg #[.int .i64 a, .int .i64 b]) (.agg #[.int .i64 a', .int .i64 b'])).run Try.prog w = .ok (a == a' && b == b') w := by
  rw [Op.equalIn, Sem.run_bind, run_underlying Try.underlying68]
  simp only [Result.andThen_ok]
  have h3 : ∀ x y : Int, (Op.equalIn (d + 1) 3 (.int .i64 x) (.int .i64 y)).run Try.prog w = .ok (x == y) w := by
    intro x y
    rw [Op.equalIn, Sem.run_bind, run_underlying Try.underlying3]
    simp
  have hs : (sizeOf 3).run Try.prog w = .ok 1 w := by kernel_rfl
  have p0 : ∀ a b, (part 3 #[.int .i64 a, .int .i64 b] 0).run Try.prog w = .ok (.int .i64 a) w := fun a b => by kernel_rfl
  have p1 : ∀ a b, (part 3 #[.int .i64 a, .int .i64 b] 1).run Try.prog w = .ok (.int .i64 b) w := fun a b => by kernel_rfl
  by_cases c : a = a' <;> by_cases c2 : b = b' <;> simp [Std.Legacy.Range.forIn_eq_forIn_range', Std.Legacy.Range.size, Nat.sub_zero, Nat.add_sub_cancel, Nat.div_one, List.range'_succ, List.range'_zero, List.forIn_cons, List.forIn_nil, hs, p0, p1, h3, c, c2]
theorem blk_setne {w : World} {g g2 j : Nat} {v : Value} {o : Obj} (h : w.heap[g]? = some o) (hne : g2 ≠ g) : (w.setCell ⟨g2, j, none⟩ v).heap[g]? = some o := by
  show (w.heap.modify g2 _)[g]? = _
  rw [Array.getElem?_modify, if_neg hne]
  exact h
theorem sixArms : ∀ b1 b2 b3 b4 b5 bm : Bool, b1 = false ∨ (b1 = true ∧ b2 = false) ∨ (b1 = true ∧ b2 = true ∧ b3 = false) ∨ (b1 = true ∧ b2 = true ∧ b3 = true ∧ b4 = false) ∨ (b1 = true ∧ b2 = true ∧ b3 = true ∧ b4 = true ∧ b5 = false) ∨ (b1 = true ∧ b2 = true ∧ b3 = true ∧ b4 = true ∧ b5 = true ∧ bm = true) ∨ (b1 = true ∧ b2 = true ∧ b3 = true ∧ b4 = true ∧ b5 = true ∧ bm = false) := by intro b1 b2 b3 b4 b5 bm; cases b1 <;> cases b2 <;> cases b3 <;> cases b4 <;> cases b5 <;> cases bm <;> simp
theorem kindTZ : Sets.KeyKind Try.prog 68 keyTZ := by
  refine Sets.KeyKind.asked (d := .array 2 3) Try.underlying68 (fun x y => rfl) (fun e x w => chkTZ e x.1 x.2 9998 w) (fun x y w => ?_) (fun x => ?_)
  · have h := eqTZ 9998 x.1 x.2 y.1 y.2 w
    show (Op.equalIn (9998 + 2) 68 _ _).run Try.prog w = _
    unfold keyTZ
    rw [h]
    congr 1
    rw [Bool.eq_iff_iff]
    simp [Prod.ext_iff]
  · show Instr.sameBits (9999 + 1) (.agg #[.int .i64 x.1, .int .i64 x.2]) (.agg #[.int .i64 x.1, .int .i64 x.2]) = true
    simp [Instr.sameBits]
@[go_sem] theorem build68 (a b : Int) (w : World) : (Instr.build 68 #[(0, .int .i64 a), (1, .int .i64 b)]).run Try.prog w = .ok (.agg #[.int .i64 a, .int .i64 b]) w := run_build w 68 _ _ (by kernel_rfl)
def tarOne (t : S60) : Bool := decide (0 ≤ t.f0) && decide (t.f0 ≤ 99) && decide (0 ≤ t.f1) && decide (t.f1 ≤ 86399) && decide (1 ≤ t.f2) && decide (t.f2 ≤ 10000) && decide (0 ≤ t.f3) && decide (t.f3 ≤ 100000) && decide (0 ≤ t.f4) && decide (t.f4 ≤ 100000)
def tarOk : List (Int × Int) → List S60 → Bool
  | _, [] => true
  | seen, t :: ts => if tarOne t = true ∧ (t.f0, t.f1) ∉ seen then tarOk (seen ++ [(t.f0, t.f1)]) ts else false
def impl_TariffsOk.f (l0 : List S60) : Option Bool := if l0.length ≤ 9223372036854775807 then some (tarOk [] l0 && decide (l0.length ≤ 40)) else none
set_option maxHeartbeats 8000000 in
set_option maxRecDepth 100000 in
theorem impl_TariffsOk.calls (A0 : Option Addr) (c0 : Nat) (l0 : List (S60)) (r : Bool) (w : World) (hr0 : Kd.C k60 w A0 l0.length l0) (hc0 : l0.length ≤ c0) (h : impl_TariffsOk.f l0 = some r) :
    Calls Try.prog 18 #[.slice A0 l0.length c0] w fun e w' => e = .returned (.bool r) ∧ Below w.heap.size w w' := by
  have hu60 := Try.underlying60
  have HR0 := Aside0.mk hr0
  have HC0 := Aside0.mk hc0
  clear hr0 hc0
  have HB := Aside0.mk (Below.refl w.heap.size w)
  have hlen : l0.length ≤ 9223372036854775807 := by
    by_cases q : l0.length ≤ 9223372036854775807
    · exact q
    · rw [impl_TariffsOk.f, if_neg q] at h; cases h
  rw [impl_TariffsOk.f, if_pos hlen] at h
  have H' := Aside0.mk (Option.some.inj h)
  have HLEN := Aside0.mk hlen
  clear h hlen
  go_enter Try.func18, Try.ntmps18
  go_wp2_with (first | ((with_reducible refine gate_dst (N := 7) rfl ?_); refine Sets.wpList_new keyTZ rfl rfl HB.out (Nat.le_refl _) ?_; intro b w4 hb_ hset_ hB_ hsz_; have HS := Aside0.mk hset_; have HB4 := Aside0.mk hB_; have HGE := Aside0.mk (show w.heap.size ≤ b by omega); clear hb_ hset_ hB_ hsz_))
  clear HB
  have HL : ∀ i : Nat, i < l0.length → l0.drop i = rd_T60 l0 i :: l0.drop (i + 1) := by
    intro i hi
    rw [List.drop_eq_getElem_cons hi]
    simp [rd_T60, hi]
  have zero4 : ∀ w : World, (zeroValue 4).run Try.prog w = .ok (.bool false) w := fun w => by kernel_rfl
  go_loopg [10] (l0.length + 1) (fun g v10 w' => ∃ (x : Int) (i : Nat) (seen : List (Int × Int)), v10 = .int .i64 x ∧ Aside0 (x = (i : Int) ∧ i ≤ l0.length ∧ g = l0.length + 1 - i) ∧ Aside0 ((tarOk seen (l0.drop i) && decide (l0.length ≤ 40)) = r) ∧ Aside0 (Sets.IsSet keyTZ w' b seen) ∧ Aside0 (Below w.heap.size w w'))
  case atStart => exact ⟨0, 0, [], rfl, ⟨⟨rfl, Nat.zero_le _, rfl⟩⟩, H', HS, HB4⟩
  case round =>
    clear H' HS HB4
    obtain ⟨x, i, seen, rfl, HI, HA, HS, HB⟩ := hrel
    by_cases c : i < l0.length
    · have H := HA.out
      clear HA
      have hxi := HI.out.1
      rw [HL i c, ← hxi] at H
      have ci : x < (l0.length : Int) := by omega
      have cb : decide (x < (l0.length : Int)) = true := decide_eq_true ci
      have p101 : 0 ≤ x := by omega
      clear hxi
      obtain ⟨ad101, e101, hx101_0, hx101_1, hx101_2, hx101_3, hx101_4⟩ := at_T60 HR0.out x p101 ci
      cases e101
      replace hx101_0 := (HB.out.cell (World.block_lt_of_cell? w _ hx101_0)).trans hx101_0
      replace hx101_1 := (HB.out.cell (World.block_lt_of_cell? w _ hx101_1)).trans hx101_1
      replace hx101_2 := (HB.out.cell (World.block_lt_of_cell? w _ hx101_2)).trans hx101_2
      replace hx101_3 := (HB.out.cell (World.block_lt_of_cell? w _ hx101_3)).trans hx101_3
      replace hx101_4 := (HB.out.cell (World.block_lt_of_cell? w _ hx101_4)).trans hx101_4
      replace p101 := eq_true p101
      replace ci := eq_true ci
      clear c HL
      generalize rd_T60 l0 x = t at *
      go_upto_region 5 with (first | ((with_reducible refine gate_dst (N := 5) rfl ?_); refine box_event ?hg (N := 5) ?hd (cs := #[.int .i64 0, .int .i64 0, .int .i64 0, .int .i64 0, .int .i64 0]) (t := 60) ?hr ?_; (case hd => rfl); (case hg => rfl); (case hr => first | (go_simp; done) | (go_simp; rfl)); intro gb102 hg w5 hbox hb; have n0_ := Aside0.mk (below_step (by repeat (first | (with_reducible first | exact HB.out | apply below_alloc | apply pw_below_drewN | apply below_drew1 | refine below_set ?_ GE102.out) | exact HB.out)) hb); have n1_ := Aside0.mk (hbox); have n2_ := Aside0.mk ((by rw [hg]; exact (below_size (by repeat (first | (with_reducible first | exact HB.out | apply below_alloc | apply pw_below_drewN | apply below_drew1 | refine below_set ?_ GE102.out) | exact HB.out)))) : w.heap.size ≤ gb102); have n3_ := Aside0.mk (Sets.IsSet.below (by with_reducible repeat (first | exact HS.out | apply Sets.IsSet.drewN | apply Sets.IsSet.drew | apply Sets.IsSet.setCell | apply Sets.IsSet.alloc)) hb);  clear HB HS; have HB := n0_; have BK102 := n1_; have GE102 := n2_; have HS := n3_; clear n0_ n1_ n2_ n3_; clear hb hbox hg; have hczgb102_0 : w5.cell? ⟨gb102, 0, none⟩ = some (.int .i64 0) := (blk_cell BK102.out 0).trans rfl; have hfzgb102_0 := blk_frozen BK102.out 0; have hczgb102_1 : w5.cell? ⟨gb102, 1, none⟩ = some (.int .i64 0) := (blk_cell BK102.out 1).trans rfl; have hfzgb102_1 := blk_frozen BK102.out 1; have hczgb102_2 : w5.cell? ⟨gb102, 2, none⟩ = some (.int .i64 0) := (blk_cell BK102.out 2).trans rfl; have hfzgb102_2 := blk_frozen BK102.out 2; have hczgb102_3 : w5.cell? ⟨gb102, 3, none⟩ = some (.int .i64 0) := (blk_cell BK102.out 3).trans rfl; have hfzgb102_3 := blk_frozen BK102.out 3; have hczgb102_4 : w5.cell? ⟨gb102, 4, none⟩ = some (.int .i64 0) := (blk_cell BK102.out 4).trans rfl; have hfzgb102_4 := blk_frozen BK102.out 4))
      (try simp only [Act.put, List.setIfInBounds_toArray, List.set_cons_zero, List.set_cons_succ])
      go_cut [6] (fun v6 wc => ∃ gb103 : Nat, v6 = .pointer (some ⟨gb103, 0, none⟩) ∧ Aside0 (w.heap.size ≤ gb103) ∧ Aside0 (wc.heap[gb102]? = some (.cells #[.int .i64 t.f0, .int .i64 t.f1, .int .i64 t.f2, .int .i64 t.f3, .int .i64 t.f4] 60 (0, 0))) ∧ Aside0 (wc.heap[gb103]? = some (.cells #[.int .i64 t.f0, .int .i64 t.f1] 68 (0, 0))) ∧ Aside0 (Sets.IsSet keyTZ wc b seen) ∧ Aside0 (Below w.heap.size w wc))
      case first =>
        go_wp2_with (first | ((with_reducible refine gate_dst (N := 6) rfl ?_); refine box_event ?hg (N := 6) ?hd (cs := #[.int .i64 0, .int .i64 0]) (t := 68) ?hr ?_; (case hd => rfl); (case hg => rfl); (case hr => first | (go_simp; done) | (go_simp; rfl)); intro gb103 hg w6 hbox hb; have n0_ := Aside0.mk (below_step (by repeat (first | (with_reducible first | exact HB.out | apply below_alloc | apply pw_below_drewN | apply below_drew1 | refine below_set ?_ GE102.out) | exact HB.out)) hb); have n1_ := Aside0.mk (hbox); have n2_ := Aside0.mk ((by rw [hg]; exact (below_size (by repeat (first | (with_reducible first | exact HB.out | apply below_alloc | apply pw_below_drewN | apply below_drew1 | refine below_set ?_ GE102.out) | exact HB.out)))) : w.heap.size ≤ gb103); have n3_ := Aside0.mk (Sets.IsSet.below (by with_reducible repeat (first | exact HS.out | apply Sets.IsSet.drewN | apply Sets.IsSet.drew | apply Sets.IsSet.setCell | apply Sets.IsSet.alloc)) hb);  have hne1 : gb102 ≠ gb103 := (by rw [hg]; refine Nat.ne_of_lt (blk_lt (o := .cells #[.int .i64 t.f0, .int .i64 t.f1, .int .i64 t.f2, .int .i64 t.f3, .int .i64 t.f4] 60 (0, 0)) ?_); (with_reducible repeat (first | refine blk_drewN ?_ _ | refine blk_drew ?_ | refine blk_alloc ?_ _)); refine blk_put (cs := #[.int .i64 t.f0, .int .i64 t.f1, .int .i64 t.f2, .int .i64 t.f3, .int .i64 0]) ?_ 4 _ rfl; (with_reducible repeat (first | refine blk_drewN ?_ _ | refine blk_drew ?_ | refine blk_alloc ?_ _)); refine blk_put (cs := #[.int .i64 t.f0, .int .i64 t.f1, .int .i64 t.f2, .int .i64 0, .int .i64 0]) ?_ 3 _ rfl; (with_reducible repeat (first | refine blk_drewN ?_ _ | refine blk_drew ?_ | refine blk_alloc ?_ _)); refine blk_put (cs := #[.int .i64 t.f0, .int .i64 t.f1, .int .i64 0, .int .i64 0, .int .i64 0]) ?_ 2 _ rfl; (with_reducible repeat (first | refine blk_drewN ?_ _ | refine blk_drew ?_ | refine blk_alloc ?_ _)); refine blk_put (cs := #[.int .i64 t.f0, .int .i64 0, .int .i64 0, .int .i64 0, .int .i64 0]) ?_ 1 _ rfl; (with_reducible repeat (first | refine blk_drewN ?_ _ | refine blk_drew ?_ | refine blk_alloc ?_ _)); refine blk_put (cs := #[.int .i64 0, .int .i64 0, .int .i64 0, .int .i64 0, .int .i64 0]) ?_ 0 _ rfl; (with_reducible repeat (first | refine blk_drewN ?_ _ | refine blk_drew ?_ | refine blk_alloc ?_ _)); exact BK102.out); have hne2 := hne1.symm; have n4_ : Aside0 (w6.heap[gb102]? = some (.cells #[.int .i64 t.f0, .int .i64 t.f1, .int .i64 t.f2, .int .i64 t.f3, .int .i64 t.f4] 60 (0, 0))) := ⟨blk_below (by (with_reducible repeat (first | refine blk_drewN ?_ _ | refine blk_drew ?_ | refine blk_alloc ?_ _)); refine blk_put (cs := #[.int .i64 t.f0, .int .i64 t.f1, .int .i64 t.f2, .int .i64 t.f3, .int .i64 0]) ?_ 4 _ rfl; (with_reducible repeat (first | refine blk_drewN ?_ _ | refine blk_drew ?_ | refine blk_alloc ?_ _)); refine blk_put (cs := #[.int .i64 t.f0, .int .i64 t.f1, .int .i64 t.f2, .int .i64 0, .int .i64 0]) ?_ 3 _ rfl; (with_reducible repeat (first | refine blk_drewN ?_ _ | refine blk_drew ?_ | refine blk_alloc ?_ _)); refine blk_put (cs := #[.int .i64 t.f0, .int .i64 t.f1, .int .i64 0, .int .i64 0, .int .i64 0]) ?_ 2 _ rfl; (with_reducible repeat (first | refine blk_drewN ?_ _ | refine blk_drew ?_ | refine blk_alloc ?_ _)); refine blk_put (cs := #[.int .i64 t.f0, .int .i64 0, .int .i64 0, .int .i64 0, .int .i64 0]) ?_ 1 _ rfl; (with_reducible repeat (first | refine blk_drewN ?_ _ | refine blk_drew ?_ | refine blk_alloc ?_ _)); refine blk_put (cs := #[.int .i64 0, .int .i64 0, .int .i64 0, .int .i64 0, .int .i64 0]) ?_ 0 _ rfl; (with_reducible repeat (first | refine blk_drewN ?_ _ | refine blk_drew ?_ | refine blk_alloc ?_ _)); exact BK102.out) hb⟩; clear BK102; have BK102 := n4_; clear n4_; clear HB HS; have HB := n0_; have BK103 := n1_; have GE103 := n2_; have HS := n3_; clear n0_ n1_ n2_ n3_; clear hb hbox hg; have hczgb103_0 : w6.cell? ⟨gb103, 0, none⟩ = some (.int .i64 0) := (blk_cell BK103.out 0).trans rfl; have hfzgb103_0 := blk_frozen BK103.out 0; have hczgb103_1 : w6.cell? ⟨gb103, 1, none⟩ = some (.int .i64 0) := (blk_cell BK103.out 1).trans rfl; have hfzgb103_1 := blk_frozen BK103.out 1))
        go_meet
        case rel => exact ⟨gb103, rfl, GE103, ⟨by (with_reducible repeat (first | refine blk_drewN ?_ _ | refine blk_drew ?_ | refine blk_alloc ?_ _ | refine blk_setne ?_ hne2)); exact BK102.out⟩, ⟨by (with_reducible repeat (first | refine blk_drewN ?_ _ | refine blk_drew ?_ | refine blk_alloc ?_ _)); refine blk_put (cs := #[.int .i64 t.f0, .int .i64 0]) ?_ 1 _ rfl; (with_reducible repeat (first | refine blk_drewN ?_ _ | refine blk_drew ?_ | refine blk_alloc ?_ _)); refine blk_put (cs := #[.int .i64 0, .int .i64 0]) ?_ 0 _ rfl; (with_reducible repeat (first | refine blk_drewN ?_ _ | refine blk_drew ?_ | refine blk_alloc ?_ _)); exact BK103.out⟩, ⟨by with_reducible repeat (first | exact HS.out | apply Sets.IsSet.drewN | apply Sets.IsSet.drew | apply Sets.IsSet.setCell | apply Sets.IsSet.alloc)⟩, ⟨by repeat (first | (with_reducible first | exact HB.out | apply below_alloc | apply pw_below_drewN | apply below_drew1 | refine below_set ?_ GE102.out | refine below_set ?_ GE103.out) | exact HB.out)⟩⟩
      case rest =>
      clear BK102 HS HB
      obtain ⟨gb103, rfl, GE103, BK102, BK103, HS, HB⟩ := hcut
      have hcy0 : wc.cell? ⟨gb102, 0, none⟩ = some (.int .i64 t.f0) := (blk_cell BK102.out 0).trans rfl
      have hcy1 : wc.cell? ⟨gb102, 1, none⟩ = some (.int .i64 t.f1) := (blk_cell BK102.out 1).trans rfl
      have hcy2 : wc.cell? ⟨gb102, 2, none⟩ = some (.int .i64 t.f2) := (blk_cell BK102.out 2).trans rfl
      have hcy3 : wc.cell? ⟨gb102, 3, none⟩ = some (.int .i64 t.f3) := (blk_cell BK102.out 3).trans rfl
      have hcy4 : wc.cell? ⟨gb102, 4, none⟩ = some (.int .i64 t.f4) := (blk_cell BK102.out 4).trans rfl
      have hcx0 : wc.cell? ⟨gb103, 0, none⟩ = some (.int .i64 t.f0) := (blk_cell BK103.out 0).trans rfl
      have hcx1 : wc.cell? ⟨gb103, 1, none⟩ = some (.int .i64 t.f1) := (blk_cell BK103.out 1).trans rfl
      have hin : ∀ a b c : Int, impl_in.f a b c = some (decide (b ≤ a) && decide (a ≤ c)) := by
        intro a b c
        unfold impl_in.f
        by_cases q : a ≥ b
        · rw [if_pos q]; simp [q]
        · rw [if_neg q]; simp [q]
      obtain ⟨b1, hb1⟩ : ∃ q, (decide (0 ≤ t.f0) && decide (t.f0 ≤ 99)) = q := ⟨_, rfl⟩
      obtain ⟨b2, hb2⟩ : ∃ q, (decide (0 ≤ t.f1) && decide (t.f1 ≤ 86399)) = q := ⟨_, rfl⟩
      obtain ⟨b3, hb3⟩ : ∃ q, (decide (1 ≤ t.f2) && decide (t.f2 ≤ 10000)) = q := ⟨_, rfl⟩
      obtain ⟨b4, hb4⟩ : ∃ q, (decide (0 ≤ t.f3) && decide (t.f3 ≤ 100000)) = q := ⟨_, rfl⟩
      obtain ⟨b5, hb5⟩ : ∃ q, (decide (0 ≤ t.f4) && decide (t.f4 ≤ 100000)) = q := ⟨_, rfl⟩
      have A1 := Aside0.mk ((hin t.f0 0 99).trans (congrArg some hb1))
      have A2 := Aside0.mk ((hin t.f1 0 86399).trans (congrArg some hb2))
      have A3 := Aside0.mk ((hin t.f2 1 10000).trans (congrArg some hb3))
      have A4 := Aside0.mk ((hin t.f3 0 100000).trans (congrArg some hb4))
      have A5 := Aside0.mk ((hin t.f4 0 100000).trans (congrArg some hb5))
      have hone : tarOne t = (b1 && b2 && b3 && b4 && b5) := by subst hb1 hb2 hb3 hb4 hb5; unfold tarOne; simp only [Bool.and_assoc]
      clear hin hb1 hb2 hb3 hb4 hb5
      obtain ⟨bm, hbm⟩ : ∃ q : Bool, q = true ↔ (t.f0, t.f1) ∈ seen := ⟨decide ((t.f0, t.f1) ∈ seen), by simp⟩
      have hstep : tarOk seen (t :: l0.drop (i + 1)) = if (b1 && b2 && b3 && b4 && b5 && !bm) = true then tarOk (seen ++ [(t.f0, t.f1)]) (l0.drop (i + 1)) else false := by
        rw [tarOk, hone]
        by_cases qm : (t.f0, t.f1) ∈ seen
        · obtain rfl := hbm.2 qm
          simp [qm]
        · have qb : bm = false := by cases bm with | true => exact absurd (hbm.1 rfl) qm | false => rfl
          subst qb
          simp [qm]
      rw [hstep] at H
      have HA := Aside0.mk H
      have HM := Sets.Tells.mk hbm
      clear H hstep hone hbm
      go_upto_region 6 with (fail)
      go_cut [51] (fun v51 wd => ∃ q : Bool, v51 = .bool q ∧ Aside0 (q = !(b1 && b2 && b3 && b4 && b5 && !bm)) ∧ Aside0 (wd.heap[gb103]? = some (.cells #[.int .i64 t.f0, .int .i64 t.f1] 68 (0, 0))) ∧ Aside0 (Sets.IsSet keyTZ wd b seen) ∧ Aside0 (Below w.heap.size w wd))
      case first =>
        have arms := sixArms b1 b2 b3 b4 b5 bm
        clear HA HI
        rcases arms with rfl | ⟨rfl, rfl⟩ | ⟨rfl, rfl, rfl⟩ | ⟨rfl, rfl, rfl, rfl⟩ | ⟨rfl, rfl, rfl, rfl, rfl⟩ | ⟨rfl, rfl, rfl, rfl, rfl, rfl⟩ | ⟨rfl, rfl, rfl, rfl, rfl, rfl⟩
        all_goals
          go_wp2_with (first | (go_at_call 38; (with_reducible refine (impl_in.calls _ _ _ _ _ A1.out).mono ?_); rintro e w' ⟨rfl, ⟨nd, rfl⟩⟩; (try first | exact ⟨rfl, _, World.drewN_drewN _ _ _⟩ | exact ⟨rfl, _, Eq.trans (World.drewN_drewN _ _ _) (congrArg (World.drewN _) (Nat.add_assoc _ _ _))⟩)) | (go_at_call 38; (with_reducible refine (impl_in.calls _ _ _ _ _ A2.out).mono ?_); rintro e w' ⟨rfl, ⟨nd, rfl⟩⟩; (try first | exact ⟨rfl, _, World.drewN_drewN _ _ _⟩ | exact ⟨rfl, _, Eq.trans (World.drewN_drewN _ _ _) (congrArg (World.drewN _) (Nat.add_assoc _ _ _))⟩)) | (go_at_call 38; (with_reducible refine (impl_in.calls _ _ _ _ _ A3.out).mono ?_); rintro e w' ⟨rfl, ⟨nd, rfl⟩⟩; (try first | exact ⟨rfl, _, World.drewN_drewN _ _ _⟩ | exact ⟨rfl, _, Eq.trans (World.drewN_drewN _ _ _) (congrArg (World.drewN _) (Nat.add_assoc _ _ _))⟩)) | (go_at_call 38; (with_reducible refine (impl_in.calls _ _ _ _ _ A4.out).mono ?_); rintro e w' ⟨rfl, ⟨nd, rfl⟩⟩; (try first | exact ⟨rfl, _, World.drewN_drewN _ _ _⟩ | exact ⟨rfl, _, Eq.trans (World.drewN_drewN _ _ _) (congrArg (World.drewN _) (Nat.add_assoc _ _ _))⟩)) | (go_at_call 38; (with_reducible refine (impl_in.calls _ _ _ _ _ A5.out).mono ?_); rintro e w' ⟨rfl, ⟨nd, rfl⟩⟩; (try first | exact ⟨rfl, _, World.drewN_drewN _ _ _⟩ | exact ⟨rfl, _, Eq.trans (World.drewN_drewN _ _ _) (congrArg (World.drewN _) (Nat.add_assoc _ _ _))⟩)) | (at_lookup; refine Sets.wpList_look (enc := keyTZ) (by first | rfl | decide) rfl kindTZ Try.underlying67 (zero4 _) (by with_reducible repeat (first | exact HS.out | apply Sets.IsSet.drewN | apply Sets.IsSet.drew | apply Sets.IsSet.setCell | apply Sets.IsSet.alloc)) (t.f0, t.f1) rfl rfl HM ?_))
          go_meet
          case rel => exact ⟨_, rfl, ⟨by simp⟩, ⟨by (with_reducible repeat (first | refine blk_drewN ?_ _ | refine blk_drew ?_ | refine blk_alloc ?_ _)); exact BK103.out⟩, ⟨by with_reducible repeat (first | exact HS.out | apply Sets.IsSet.drewN | apply Sets.IsSet.drew | apply Sets.IsSet.setCell | apply Sets.IsSet.alloc)⟩, ⟨by repeat (first | (with_reducible first | exact HB.out | apply below_alloc | apply pw_below_drewN | apply below_drew1) | exact HB.out)⟩⟩
      case rest =>
      clear BK102 BK103 HS HB hcy0 hcy1 hcy2 hcy3 hcy4 hcx0 hcx1 A1 A2 A3 A4 A5
      obtain ⟨q, rfl, HQ, BK103, HS, HB⟩ := hcut
      have hcx0 : wc.cell? ⟨gb103, 0, none⟩ = some (.int .i64 t.f0) := (blk_cell BK103.out 0).trans rfl
      have hcx1 : wc.cell? ⟨gb103, 1, none⟩ = some (.int .i64 t.f1) := (blk_cell BK103.out 1).trans rfl
      have hgk := HI.out.2.2
      cases q with
      | true =>
        have hr : r = false := by
          have hall : (b1 && b2 && b3 && b4 && b5 && !bm) = false := by have := HQ.out; revert this; cases (b1 && b2 && b3 && b4 && b5 && !bm) <;> simp
          have := HA.out
          rw [hall] at this
          simpa using this.symm
        subst hr
        clear HA HQ HI hgk
        go_wp2_with (fail)
        go_ret
        exact ⟨rfl, by repeat (first | (with_reducible first | exact HB7.out | exact HB.out | apply below_alloc | apply pw_below_drewN | apply below_drew1) | exact HB.out)⟩
      | false =>
        have hall : (b1 && b2 && b3 && b4 && b5 && !bm) = true := by have := HQ.out; revert this; cases (b1 && b2 && b3 && b4 && b5 && !bm) <;> simp
        have hbm : bm = false := by revert hall; cases bm <;> simp
        have H := HA.out
        rw [if_pos hall] at H
        replace HA := Aside0.mk H
        subst hbm
        clear H hall HQ
        go_wp2_with (first | (at_mapUpdate; refine Sets.wpList_put (enc := keyTZ) rfl rfl kindTZ Try.underlying67 (by with_reducible repeat (first | exact HS.out | apply Sets.IsSet.drewN | apply Sets.IsSet.drew | apply Sets.IsSet.setCell | apply Sets.IsSet.alloc)) (t.f0, t.f1) rfl rfl rfl HM (by repeat (first | (with_reducible first | exact HB.out | apply below_alloc | apply pw_below_drewN | apply below_drew1 | refine below_set ?_ GE102.out | refine below_set ?_ GE103.out) | exact HB.out)) HGE.out ?_; intro w7 hset_ hB_ hk_ hs_; have HS7 := Aside0.mk hset_; have HB7 := Aside0.mk hB_; clear hset_ hB_ hk_ hs_))
        have hlt := of_eq_true ci
        have h62 := HLEN.out
        have hi := HI.out
        have hw : wrap64 (x + 1) = ((i + 1 : Nat) : Int) := by unfold wrap64; omega
        go_roundg (gk - 1)
        case measure => omega
        case rel => exact ⟨_, i + 1, _, rfl, ⟨⟨hw, by omega, by omega⟩⟩, HA, ⟨by have q := HS7.out; (try rw [if_neg (by decide)] at q); exact q⟩, ⟨by repeat (first | (with_reducible first | exact HB7.out | exact HB.out | apply below_alloc | apply pw_below_drewN | apply below_drew1) | exact HB.out)⟩⟩
    · have hi := HI.out
      have hx : decide (x < (l0.length : Int)) = false := decide_eq_false (by omega)
      have he : l0.drop i = [] := List.drop_eq_nil_iff.2 (by omega)
      have H := HA.out
      rw [he] at H
      have hr : decide ((l0.length : Int) ≤ 40) = r := by
        rw [← H, tarOk]
        simp only [Bool.true_and]
        congr 1
        exact propext (by omega)
      clear H HA he hi c HI
      go_wp2_with (fail)
      go_ret
      exact ⟨by first | (simp [hr]; done) | (rw [← hr]; rfl) | (rw [← hr]; simp; done), by repeat (first | (with_reducible first | exact HB7.out | exact HB.out | apply below_alloc | apply pw_below_drewN | apply below_drew1) | exact HB.out)⟩

/-! ### impl_tariffAt: function 42 -/
mutual
def impl_tariffAt.l0 : Nat → List (S60) → Int → Int → Int → Int → List (S60) → Int → Int → Option (Int)
  | 0, _, _, _, _, _, _, _, _ => none
  | k + 1, x0, x1, x2, x7, x8, x11, x12, x13 => if x13 < x12 then (if 0 ≤ x13 then (if x13 < (x11.length : Int) then (if ((rd_T60 x11 x13).f0) = x1 then (if x8 < 0 then (impl_tariffAt.j1 k x0 x1 x2 x7 x8 x13 x11 x12 x13 true ((rd_T60 x11 x13).f0) ((rd_T60 x11 x13).f1) ((rd_T60 x11 x13).f2) ((rd_T60 x11 x13).f3) ((rd_T60 x11 x13).f4)) else (if 0 ≤ x8 then (if x8 < (x0.length : Int) then (impl_tariffAt.j1 k x0 x1 x2 x7 x8 x13 x11 x12 x13 (decide (((rd_T60 x11 x13).f1) > ((rd_T60 x0 x8).f1))) ((rd_T60 x11 x13).f0) ((rd_T60 x11 x13).f1) ((rd_T60 x11 x13).f2) ((rd_T60 x11 x13).f3) ((rd_T60 x11 x13).f4)) else (none)) else (none))) else (impl_tariffAt.l0 k x0 x1 x2 x7 x8 x11 x12 (wrap64 (x13 + 1)))) else (none)) else (none)) else (if x7 < 0 then (some x8) else (some x7))
def impl_tariffAt.j1 : Nat → List (S60) → Int → Int → Int → Int → Int → List (S60) → Int → Int → Bool → Int → Int → Int → Int → Int → Option (Int)
  | 0, _, _, _, _, _, _, _, _, _, _, _, _, _, _, _ => none
  | k + 1, x0, x1, x2, x7, x8, x9, x11, x12, x13, x33, x169000, x169001, x169002, x169003, x169004 => if x33 = true then (if x169001 ≤ (Int.tmod x2 86400) then (if x7 < 0 then (impl_tariffAt.l0 k x0 x1 x2 x9 x9 x11 x12 (wrap64 (x13 + 1))) else (if 0 ≤ x7 then (if x7 < (x0.length : Int) then (if x169001 > ((rd_T60 x0 x7).f1) then (impl_tariffAt.l0 k x0 x1 x2 x9 x9 x11 x12 (wrap64 (x13 + 1))) else (impl_tariffAt.l0 k x0 x1 x2 x7 x9 x11 x12 (wrap64 (x13 + 1)))) else (none)) else (none))) else (impl_tariffAt.l0 k x0 x1 x2 x7 x9 x11 x12 (wrap64 (x13 + 1)))) else (if x169001 ≤ (Int.tmod x2 86400) then (if x7 < 0 then (impl_tariffAt.l0 k x0 x1 x2 x9 x8 x11 x12 (wrap64 (x13 + 1))) else (if 0 ≤ x7 then (if x7 < (x0.length : Int) then (if x169001 > ((rd_T60 x0 x7).f1) then (impl_tariffAt.l0 k x0 x1 x2 x9 x8 x11 x12 (wrap64 (x13 + 1))) else (impl_tariffAt.l0 k x0 x1 x2 x7 x8 x11 x12 (wrap64 (x13 + 1)))) else (none)) else (none))) else (impl_tariffAt.l0 k x0 x1 x2 x7 x8 x11 x12 (wrap64 (x13 + 1))))
end
def impl_tariffAt.f (k : Nat) (l0 : List (S60)) (a1 : Int) (a2 : Int) : Option (Int) := impl_tariffAt.l0 k l0 a1 a2 (-1) (-1) l0 (l0.length : Int) 0
theorem impl_tariffAt.mono_l : ∀ k, (∀ y0 y1 y2 y3 y4 y5 y6 y7, LeO (impl_tariffAt.l0 k y0 y1 y2 y3 y4 y5 y6 y7) (impl_tariffAt.l0 (k + 1) y0 y1 y2 y3 y4 y5 y6 y7)) ∧ (∀ y0 y1 y2 y3 y4 y5 y6 y7 y8 y9 y10 y11 y12 y13 y14, LeO (impl_tariffAt.j1 k y0 y1 y2 y3 y4 y5 y6 y7 y8 y9 y10 y11 y12 y13 y14) (impl_tariffAt.j1 (k + 1) y0 y1 y2 y3 y4 y5 y6 y7 y8 y9 y10 y11 y12 y13 y14))
  | 0 => ⟨fun _ _ _ _ _ _ _ _ r h => by simp [impl_tariffAt.l0] at h, fun _ _ _ _ _ _ _ _ _ _ _ _ _ _ _ r h => by simp [impl_tariffAt.j1] at h⟩
  | k + 1 => by
    obtain ⟨ih0, ih1⟩ := impl_tariffAt.mono_l k
    refine ⟨?_, ?_⟩
    · intro y0 y1 y2 y3 y4 y5 y6 y7
      unfold impl_tariffAt.l0
      repeat' first
      | (with_reducible exact ih0 _ _ _ _ _ _ _ _)
      | (with_reducible exact ih1 _ _ _ _ _ _ _ _ _ _ _ _ _ _ _)
      | (with_reducible exact LeO.refl _)
      | (with_reducible exact LeO.none _)
      | (with_reducible refine LeO.ite ?_ ?_)
      | (with_reducible refine LeO.bind ?_ (fun _ => ?_))
      | exact ih0 _ _ _ _ _ _ _ _
      | exact ih1 _ _ _ _ _ _ _ _ _ _ _ _ _ _ _
      | exact LeO.none _
      | refine LeO.ite ?_ ?_
      | refine LeO.bind ?_ (fun _ => ?_)
    · intro y0 y1 y2 y3 y4 y5 y6 y7 y8 y9 y10 y11 y12 y13 y14
      unfold impl_tariffAt.j1
      repeat' first
      | (with_reducible exact ih0 _ _ _ _ _ _ _ _)
      | (with_reducible exact ih1 _ _ _ _ _ _ _ _ _ _ _ _ _ _ _)
      | (with_reducible exact LeO.refl _)
      | (with_reducible exact LeO.none _)
      | (with_reducible refine LeO.ite ?_ ?_)
      | (with_reducible refine LeO.bind ?_ (fun _ => ?_))
      | exact ih0 _ _ _ _ _ _ _ _
      | exact ih1 _ _ _ _ _ _ _ _ _ _ _ _ _ _ _
      | exact LeO.none _
      | refine LeO.ite ?_ ?_
      | refine LeO.bind ?_ (fun _ => ?_)
theorem impl_tariffAt.mono : ∀ a0 a1 a2 k, LeO (impl_tariffAt.f k a0 a1 a2) (impl_tariffAt.f (k + 1) a0 a1 a2) := by
  intro a0 a1 a2 k
  obtain ⟨ih0, ih1⟩ := impl_tariffAt.mono_l k
  unfold impl_tariffAt.f
  repeat' first
      | (with_reducible exact ih0 _ _ _ _ _ _ _ _)
      | (with_reducible exact ih1 _ _ _ _ _ _ _ _ _ _ _ _ _ _ _)
      | (with_reducible exact LeO.refl _)
      | (with_reducible exact LeO.none _)
      | (with_reducible refine LeO.ite ?_ ?_)
      | (with_reducible refine LeO.bind ?_ (fun _ => ?_))
      | exact ih0 _ _ _ _ _ _ _ _
      | exact ih1 _ _ _ _ _ _ _ _ _ _ _ _ _ _ _
      | exact LeO.none _
      | refine LeO.ite ?_ ?_
      | refine LeO.bind ?_ (fun _ => ?_)
set_option maxHeartbeats 8000000 in
set_option maxRecDepth 100000 in
theorem impl_tariffAt.calls (k : Nat) (A0 : Option Addr) (c0 : Nat) (l0 : List (S60)) (a1 : Int) (a2 : Int) (r : Int) (w : World) (hr0 : Kd.C k60 w A0 l0.length l0) (hc0 : l0.length ≤ c0) (h : impl_tariffAt.f k l0 a1 a2 = some r) :
    Calls Try.prog 42 #[.slice A0 l0.length c0, .int .i64 a1, .int .i64 a2] w fun e w' => e = .returned (.int .i64 r) ∧ Below w.heap.size w w' := by
  have hu60 := Try.underlying60
  have HR0 := Aside0.mk hr0
  have HC0 := Aside0.mk hc0
  clear hr0 hc0
  have HB := Aside0.mk (Below.refl w.heap.size w)
  have H : (impl_tariffAt.l0 k l0 a1 a2 (-1) (-1) l0 (l0.length : Int) 0) = some r := h
  clear h
  have H' := Aside0.mk H
  clear H
  go_enter Try.func42, Try.ntmps42
  go_wp2
  repeat (go_quiet (fail); try go_wp2)
  go_loopg [7, 8, 13] k (fun kq v7 v8 v13 w' => ∃ (x7_1 : Int) (x8_1 : Int) (x13_1 : Int), v7 = .int .i64 x7_1 ∧ v8 = .int .i64 x8_1 ∧ v13 = .int .i64 x13_1 ∧ Aside0 (impl_tariffAt.l0 kq l0 a1 a2 x7_1 x8_1 l0 (l0.length : Int) x13_1 = some r) ∧ Aside0 (kq ≤ k) ∧ Aside0 (Below w.heap.size w w'))
  case atStart => exact ⟨((-1)), ((-1)), (0), (by first | rfl | (simp; done) | (simp [*]; done)), (by first | rfl | (simp; done) | (simp [*]; done)), (by first | rfl | (simp; done) | (simp [*]; done)), H', ⟨Nat.le_refl _⟩, ⟨by repeat (first | (with_reducible first | exact HB.out | apply below_alloc | apply pw_below_drewN | apply below_drew1) | exact HB.out)⟩⟩
  case round =>
    clear H'
    try clear p2
    obtain ⟨x7_1, x8_1, x13_1, rfl, rfl, rfl, HA, HK1, HB⟩ := hrel
    cases gk with
    | zero => exact absurd HA.out (by simp [impl_tariffAt.l0])
    | succ k1 =>
      have H := HA.out
      clear HA
      simp only [impl_tariffAt.l0] at H
      by_cases c4 : x13_1 < (l0.length : Int)
      · rw [if_pos c4] at H
        have c4b0 : decide (x13_1 < (l0.length : Int)) = true := decide_eq_true c4
        clear c4
        by_cases c5 : 0 ≤ x13_1
        · rw [if_pos c5] at H
          have c5b0 : decide (0 ≤ x13_1) = true := decide_eq_true c5
          clear c5
          by_cases c6 : x13_1 < (l0.length : Int)
          · rw [if_pos c6] at H
            have c6b0 : decide (x13_1 < (l0.length : Int)) = true := decide_eq_true c6
            clear c6
            by_cases c7 : ((rd_T60 l0 x13_1).f0) = a1
            · rw [if_pos c7] at H
              have c7b0 : (((rd_T60 l0 x13_1).f0) == a1) = true := beq_iff_eq.mpr c7
              have c7b1 : (((rd_T60 l0 x13_1).f0) != a1) = false := bne_eq_false_iff_eq.mpr c7
              clear c7
              have HC8 := Aside0.mk H
              clear H
              have p167 : 0 ≤ (x13_1 : Int) := of_decide_eq_true (by first | (with_reducible assumption) | assumption)
              have q167 : x13_1 < (l0.length : Int) := of_decide_eq_true (by first | (with_reducible assumption) | assumption)
              obtain ⟨ad167, e167, hx167_0, hx167_1, hx167_2, hx167_3, hx167_4⟩ := at_T60 HR0.out x13_1 p167 q167
              cases e167
              replace hx167_0 := (HB.out.cell (World.block_lt_of_cell? w _ hx167_0)).trans hx167_0
              replace hx167_1 := (HB.out.cell (World.block_lt_of_cell? w _ hx167_1)).trans hx167_1
              replace hx167_2 := (HB.out.cell (World.block_lt_of_cell? w _ hx167_2)).trans hx167_2
              replace hx167_3 := (HB.out.cell (World.block_lt_of_cell? w _ hx167_3)).trans hx167_3
              replace hx167_4 := (HB.out.cell (World.block_lt_of_cell? w _ hx167_4)).trans hx167_4
              replace p167 := eq_true p167
              replace q167 := eq_true q167
              go_upto_region 6 with (first | ((with_reducible refine gate_dst (N := 10) rfl ?_); refine box_event ?hg (N := 10) ?hd (cs := #[.int .i64 0, .int .i64 0, .int .i64 0, .int .i64 0, .int .i64 0]) (t := 60) ?hr ?_; (case hd => rfl); (case hg => rfl); (case hr => first | (go_simp; done) | (go_simp; rfl)); intro gb168 hg w9 hbox hb; have n0_ := Aside0.mk (below_step (by repeat (first | (with_reducible first | exact HB.out | apply below_alloc | apply pw_below_drewN | apply below_drew1) | exact HB.out)) hb); have n1_ := Aside0.mk (hbox); have n2_ := Aside0.mk ((by rw [hg]; exact (below_size (by repeat (first | (with_reducible first | exact HB.out | apply below_alloc | apply pw_below_drewN | apply below_drew1) | exact HB.out))) : w.heap.size ≤ gb168)); have n3_ := Aside0.mk ((by rw [hg]; exact (below_size (by repeat (first | (with_reducible first | exact HB.out | apply below_alloc | apply pw_below_drewN | apply below_drew1) | exact HB.out))) : w.heap.size ≤ gb168)); clear HB; have HB := n0_; have BK168 := n1_; have GW168 := n2_; have GE168 := n3_; clear n0_ n1_ n2_ n3_; clear hb hbox hg; have hcz10_0 : w9.cell? ⟨gb168, 0, none⟩ = some (.int .i64 0) := (blk_cell BK168.out 0).trans rfl; have hcz10_1 : w9.cell? ⟨gb168, 1, none⟩ = some (.int .i64 0) := (blk_cell BK168.out 1).trans rfl; have hcz10_2 : w9.cell? ⟨gb168, 2, none⟩ = some (.int .i64 0) := (blk_cell BK168.out 2).trans rfl; have hcz10_3 : w9.cell? ⟨gb168, 3, none⟩ = some (.int .i64 0) := (blk_cell BK168.out 3).trans rfl; have hcz10_4 : w9.cell? ⟨gb168, 4, none⟩ = some (.int .i64 0) := (blk_cell BK168.out 4).trans rfl; have hfz10_0 := blk_frozen BK168.out 0; have hfz10_1 := blk_frozen BK168.out 1; have hfz10_2 := blk_frozen BK168.out 2; have hfz10_3 := blk_frozen BK168.out 3; have hfz10_4 := blk_frozen BK168.out 4))
              repeat (go_quiet (first | ((with_reducible refine gate_dst (N := 10) rfl ?_); refine box_event ?hg (N := 10) ?hd (cs := #[.int .i64 0, .int .i64 0, .int .i64 0, .int .i64 0, .int .i64 0]) (t := 60) ?hr ?_; (case hd => rfl); (case hg => rfl); (case hr => first | (go_simp; done) | (go_simp; rfl)); intro gb168 hg w9 hbox hb; have n0_ := Aside0.mk (below_step (by repeat (first | (with_reducible first | exact HB.out | apply below_alloc | apply pw_below_drewN | apply below_drew1) | exact HB.out)) hb); have n1_ := Aside0.mk (hbox); have n2_ := Aside0.mk ((by rw [hg]; exact (below_size (by repeat (first | (with_reducible first | exact HB.out | apply below_alloc | apply pw_below_drewN | apply below_drew1) | exact HB.out))) : w.heap.size ≤ gb168)); have n3_ := Aside0.mk ((by rw [hg]; exact (below_size (by repeat (first | (with_reducible first | exact HB.out | apply below_alloc | apply pw_below_drewN | apply below_drew1) | exact HB.out))) : w.heap.size ≤ gb168)); clear HB; have HB := n0_; have BK168 := n1_; have GW168 := n2_; have GE168 := n3_; clear n0_ n1_ n2_ n3_; clear hb hbox hg; have hcz10_0 : w9.cell? ⟨gb168, 0, none⟩ = some (.int .i64 0) := (blk_cell BK168.out 0).trans rfl; have hcz10_1 : w9.cell? ⟨gb168, 1, none⟩ = some (.int .i64 0) := (blk_cell BK168.out 1).trans rfl; have hcz10_2 : w9.cell? ⟨gb168, 2, none⟩ = some (.int .i64 0) := (blk_cell BK168.out 2).trans rfl; have hcz10_3 : w9.cell? ⟨gb168, 3, none⟩ = some (.int .i64 0) := (blk_cell BK168.out 3).trans rfl; have hcz10_4 : w9.cell? ⟨gb168, 4, none⟩ = some (.int .i64 0) := (blk_cell BK168.out 4).trans rfl; have hfz10_0 := blk_frozen BK168.out 0; have hfz10_1 := blk_frozen BK168.out 1; have hfz10_2 := blk_frozen BK168.out 2; have hfz10_3 := blk_frozen BK168.out 3; have hfz10_4 := blk_frozen BK168.out 4)); go_upto_region 6 with (first | ((with_reducible refine gate_dst (N := 10) rfl ?_); refine box_event ?hg (N := 10) ?hd (cs := #[.int .i64 0, .int .i64 0, .int .i64 0, .int .i64 0, .int .i64 0]) (t := 60) ?hr ?_; (case hd => rfl); (case hg => rfl); (case hr => first | (go_simp; done) | (go_simp; rfl)); intro gb168 hg w9 hbox hb; have n0_ := Aside0.mk (below_step (by repeat (first | (with_reducible first | exact HB.out | apply below_alloc | apply pw_below_drewN | apply below_drew1) | exact HB.out)) hb); have n1_ := Aside0.mk (hbox); have n2_ := Aside0.mk ((by rw [hg]; exact (below_size (by repeat (first | (with_reducible first | exact HB.out | apply below_alloc | apply pw_below_drewN | apply below_drew1) | exact HB.out))) : w.heap.size ≤ gb168)); have n3_ := Aside0.mk ((by rw [hg]; exact (below_size (by repeat (first | (with_reducible first | exact HB.out | apply below_alloc | apply pw_below_drewN | apply below_drew1) | exact HB.out))) : w.heap.size ≤ gb168)); clear HB; have HB := n0_; have BK168 := n1_; have GW168 := n2_; have GE168 := n3_; clear n0_ n1_ n2_ n3_; clear hb hbox hg; have hcz10_0 : w9.cell? ⟨gb168, 0, none⟩ = some (.int .i64 0) := (blk_cell BK168.out 0).trans rfl; have hcz10_1 : w9.cell? ⟨gb168, 1, none⟩ = some (.int .i64 0) := (blk_cell BK168.out 1).trans rfl; have hcz10_2 : w9.cell? ⟨gb168, 2, none⟩ = some (.int .i64 0) := (blk_cell BK168.out 2).trans rfl; have hcz10_3 : w9.cell? ⟨gb168, 3, none⟩ = some (.int .i64 0) := (blk_cell BK168.out 3).trans rfl; have hcz10_4 : w9.cell? ⟨gb168, 4, none⟩ = some (.int .i64 0) := (blk_cell BK168.out 4).trans rfl; have hfz10_0 := blk_frozen BK168.out 0; have hfz10_1 := blk_frozen BK168.out 1; have hfz10_2 := blk_frozen BK168.out 2; have hfz10_3 := blk_frozen BK168.out 3; have hfz10_4 := blk_frozen BK168.out 4)))
              (try simp only [Act.put, List.setIfInBounds_toArray, List.set_cons_zero, List.set_cons_succ])
              go_cut [33] (fun v33 wc => ∃ (kq : Nat) (x33_7 : Bool), v33 = .bool x33_7 ∧ Aside0 (impl_tariffAt.j1 kq l0 a1 a2 x7_1 x8_1 x13_1 l0 (l0.length : Int) x13_1 x33_7 ((rd_T60 l0 x13_1).f0) ((rd_T60 l0 x13_1).f1) ((rd_T60 l0 x13_1).f2) ((rd_T60 l0 x13_1).f3) ((rd_T60 l0 x13_1).f4) = some r) ∧ Aside0 (kq ≤ k1) ∧ Aside0 (wc.heap[gb168]? = some (.cells #[.int .i64 ((rd_T60 l0 x13_1).f0), .int .i64 ((rd_T60 l0 x13_1).f1), .int .i64 ((rd_T60 l0 x13_1).f2), .int .i64 ((rd_T60 l0 x13_1).f3), .int .i64 ((rd_T60 l0 x13_1).f4)] 60 (0, 0))) ∧ Aside0 (Below w.heap.size w wc))
              case first =>
                have H := HC8.out
                clear HC8
                by_cases c11 : x8_1 < 0
                · rw [if_pos c11] at H
                  have c11b0 : decide (x8_1 < 0) = true := decide_eq_true c11
                  clear c11
                  (first | rw [c11b0] | (simp only [i64_w, i32_w]; rw [c11b0]) | skip)
                  have H' := Aside0.mk H
                  clear H
                  go_wp2
                  repeat (go_quiet (fail); try go_wp2)
                  go_meet
                  case rel => exact ⟨_, (true), (by first | rfl | (simp; done) | (simp [*]; done)), H', ⟨by have := HK1.out; first | omega | exact Nat.le_refl _⟩, ⟨by (with_reducible repeat (first | refine blk_drewN ?_ _ | refine blk_drew ?_ | refine blk_alloc ?_ _)); refine blk_put (cs := #[.int .i64 ((rd_T60 l0 x13_1).f0), .int .i64 ((rd_T60 l0 x13_1).f1), .int .i64 ((rd_T60 l0 x13_1).f2), .int .i64 ((rd_T60 l0 x13_1).f3), .int .i64 0]) ?_ 4 _ rfl; (with_reducible repeat (first | refine blk_drewN ?_ _ | refine blk_drew ?_ | refine blk_alloc ?_ _)); refine blk_put (cs := #[.int .i64 ((rd_T60 l0 x13_1).f0), .int .i64 ((rd_T60 l0 x13_1).f1), .int .i64 ((rd_T60 l0 x13_1).f2), .int .i64 0, .int .i64 0]) ?_ 3 _ rfl; (with_reducible repeat (first | refine blk_drewN ?_ _ | refine blk_drew ?_ | refine blk_alloc ?_ _)); refine blk_put (cs := #[.int .i64 ((rd_T60 l0 x13_1).f0), .int .i64 ((rd_T60 l0 x13_1).f1), .int .i64 0, .int .i64 0, .int .i64 0]) ?_ 2 _ rfl; (with_reducible repeat (first | refine blk_drewN ?_ _ | refine blk_drew ?_ | refine blk_alloc ?_ _)); refine blk_put (cs := #[.int .i64 ((rd_T60 l0 x13_1).f0), .int .i64 0, .int .i64 0, .int .i64 0, .int .i64 0]) ?_ 1 _ rfl; (with_reducible repeat (first | refine blk_drewN ?_ _ | refine blk_drew ?_ | refine blk_alloc ?_ _)); refine blk_put (cs := #[.int .i64 0, .int .i64 0, .int .i64 0, .int .i64 0, .int .i64 0]) ?_ 0 _ rfl; (with_reducible repeat (first | refine blk_drewN ?_ _ | refine blk_drew ?_ | refine blk_alloc ?_ _)); exact BK168.out⟩, ⟨by repeat (first | (with_reducible first | exact HB.out | apply below_alloc | apply pw_below_drewN | apply below_drew1 | refine below_set ?_ GE168.out) | exact HB.out)⟩⟩
                · rw [if_neg c11] at H
                  have c11b0 : decide (x8_1 < 0) = false := decide_eq_false c11
                  clear c11
                  (first | rw [c11b0] | (simp only [i64_w, i32_w]; rw [c11b0]) | skip)
                  by_cases c12 : 0 ≤ x8_1
                  · rw [if_pos c12] at H
                    have c12b0 : decide (0 ≤ x8_1) = true := decide_eq_true c12
                    clear c12
                    by_cases c13 : x8_1 < (l0.length : Int)
                    · rw [if_pos c13] at H
                      have c13b0 : decide (x8_1 < (l0.length : Int)) = true := decide_eq_true c13
                      clear c13
                      have H' := Aside0.mk H
                      clear H
                      have hcz14_0 : w9.cell? ⟨gb168, 0, none⟩ = some (.int .i64 0) := (blk_cell BK168.out 0).trans rfl
                      have hcz14_1 : w9.cell? ⟨gb168, 1, none⟩ = some (.int .i64 0) := (blk_cell BK168.out 1).trans rfl
                      have hcz14_2 : w9.cell? ⟨gb168, 2, none⟩ = some (.int .i64 0) := (blk_cell BK168.out 2).trans rfl
                      have hcz14_3 : w9.cell? ⟨gb168, 3, none⟩ = some (.int .i64 0) := (blk_cell BK168.out 3).trans rfl
                      have hcz14_4 : w9.cell? ⟨gb168, 4, none⟩ = some (.int .i64 0) := (blk_cell BK168.out 4).trans rfl
                      have hfz14_0 := blk_frozen BK168.out 0
                      have hfz14_1 := blk_frozen BK168.out 1
                      have hfz14_2 := blk_frozen BK168.out 2
                      have hfz14_3 := blk_frozen BK168.out 3
                      have hfz14_4 := blk_frozen BK168.out 4
                      have p169 : 0 ≤ (x8_1 : Int) := of_decide_eq_true (by first | (with_reducible assumption) | assumption)
                      have q169 : x8_1 < (l0.length : Int) := of_decide_eq_true (by first | (with_reducible assumption) | assumption)
                      obtain ⟨ad169, e169, hx169_0, hx169_1, hx169_2, hx169_3, hx169_4⟩ := at_T60 HR0.out x8_1 p169 q169
                      obtain rfl : ad167 = ad169 := (by injection e169)
                      have hn169_0 : ad167.block ≠ gb168 := Nat.ne_of_lt (Nat.lt_of_lt_of_le (by have := World.block_lt_of_cell? _ _ hx169_0; first | rwa [add_block] at this | exact this) GW168.out)
                      have hn169_1 : ad167.block ≠ gb168 := Nat.ne_of_lt (Nat.lt_of_lt_of_le (by have := World.block_lt_of_cell? _ _ hx169_0; first | rwa [add_block] at this | exact this) GW168.out)
                      have hn169_2 : ad167.block ≠ gb168 := Nat.ne_of_lt (Nat.lt_of_lt_of_le (by have := World.block_lt_of_cell? _ _ hx169_0; first | rwa [add_block] at this | exact this) GW168.out)
                      have hn169_3 : ad167.block ≠ gb168 := Nat.ne_of_lt (Nat.lt_of_lt_of_le (by have := World.block_lt_of_cell? _ _ hx169_0; first | rwa [add_block] at this | exact this) GW168.out)
                      have hn169_4 : ad167.block ≠ gb168 := Nat.ne_of_lt (Nat.lt_of_lt_of_le (by have := World.block_lt_of_cell? _ _ hx169_0; first | rwa [add_block] at this | exact this) GW168.out)
                      replace hx169_0 := (HB.out.cell (World.block_lt_of_cell? w _ hx169_0)).trans hx169_0
                      replace hx169_1 := (HB.out.cell (World.block_lt_of_cell? w _ hx169_1)).trans hx169_1
                      replace hx169_2 := (HB.out.cell (World.block_lt_of_cell? w _ hx169_2)).trans hx169_2
                      replace hx169_3 := (HB.out.cell (World.block_lt_of_cell? w _ hx169_3)).trans hx169_3
                      replace hx169_4 := (HB.out.cell (World.block_lt_of_cell? w _ hx169_4)).trans hx169_4
                      replace hx169_0 := (cell_far (p := ⟨gb168, 0, none⟩) (by first | (rw [add_block]; exact hn169_0) | (show (Addr.add _ _).block ≠ _; rw [add_block]; exact hn169_0) | exact hn169_0) (.int .i64 ((rd_T60 l0 x13_1).f0))).trans hx169_0
                      replace hx169_1 := (cell_far (p := ⟨gb168, 0, none⟩) (by first | (rw [add_block]; exact hn169_0) | (show (Addr.add _ _).block ≠ _; rw [add_block]; exact hn169_0) | exact hn169_0) (.int .i64 ((rd_T60 l0 x13_1).f0))).trans hx169_1
                      replace hx169_2 := (cell_far (p := ⟨gb168, 0, none⟩) (by first | (rw [add_block]; exact hn169_0) | (show (Addr.add _ _).block ≠ _; rw [add_block]; exact hn169_0) | exact hn169_0) (.int .i64 ((rd_T60 l0 x13_1).f0))).trans hx169_2
                      replace hx169_3 := (cell_far (p := ⟨gb168, 0, none⟩) (by first | (rw [add_block]; exact hn169_0) | (show (Addr.add _ _).block ≠ _; rw [add_block]; exact hn169_0) | exact hn169_0) (.int .i64 ((rd_T60 l0 x13_1).f0))).trans hx169_3
                      replace hx169_4 := (cell_far (p := ⟨gb168, 0, none⟩) (by first | (rw [add_block]; exact hn169_0) | (show (Addr.add _ _).block ≠ _; rw [add_block]; exact hn169_0) | exact hn169_0) (.int .i64 ((rd_T60 l0 x13_1).f0))).trans hx169_4
                      replace hx169_0 := (cell_far (p := ⟨gb168, 1, none⟩) (by first | (rw [add_block]; exact hn169_1) | (show (Addr.add _ _).block ≠ _; rw [add_block]; exact hn169_1) | exact hn169_1) (.int .i64 ((rd_T60 l0 x13_1).f1))).trans hx169_0
                      replace hx169_1 := (cell_far (p := ⟨gb168, 1, none⟩) (by first | (rw [add_block]; exact hn169_1) | (show (Addr.add _ _).block ≠ _; rw [add_block]; exact hn169_1) | exact hn169_1) (.int .i64 ((rd_T60 l0 x13_1).f1))).trans hx169_1
                      replace hx169_2 := (cell_far (p := ⟨gb168, 1, none⟩) (by first | (rw [add_block]; exact hn169_1) | (show (Addr.add _ _).block ≠ _; rw [add_block]; exact hn169_1) | exact hn169_1) (.int .i64 ((rd_T60 l0 x13_1).f1))).trans hx169_2
                      replace hx169_3 := (cell_far (p := ⟨gb168, 1, none⟩) (by first | (rw [add_block]; exact hn169_1) | (show (Addr.add _ _).block ≠ _; rw [add_block]; exact hn169_1) | exact hn169_1) (.int .i64 ((rd_T60 l0 x13_1).f1))).trans hx169_3
                      replace hx169_4 := (cell_far (p := ⟨gb168, 1, none⟩) (by first | (rw [add_block]; exact hn169_1) | (show (Addr.add _ _).block ≠ _; rw [add_block]; exact hn169_1) | exact hn169_1) (.int .i64 ((rd_T60 l0 x13_1).f1))).trans hx169_4
                      replace hx169_0 := (cell_far (p := ⟨gb168, 2, none⟩) (by first | (rw [add_block]; exact hn169_2) | (show (Addr.add _ _).block ≠ _; rw [add_block]; exact hn169_2) | exact hn169_2) (.int .i64 ((rd_T60 l0 x13_1).f2))).trans hx169_0
                      replace hx169_1 := (cell_far (p := ⟨gb168, 2, none⟩) (by first | (rw [add_block]; exact hn169_2) | (show (Addr.add _ _).block ≠ _; rw [add_block]; exact hn169_2) | exact hn169_2) (.int .i64 ((rd_T60 l0 x13_1).f2))).trans hx169_1
                      replace hx169_2 := (cell_far (p := ⟨gb168, 2, none⟩) (by first | (rw [add_block]; exact hn169_2) | (show (Addr.add _ _).block ≠ _; rw [add_block]; exact hn169_2) | exact hn169_2) (.int .i64 ((rd_T60 l0 x13_1).f2))).trans hx169_2
                      replace hx169_3 := (cell_far (p := ⟨gb168, 2, none⟩) (by first | (rw [add_block]; exact hn169_2) | (show (Addr.add _ _).block ≠ _; rw [add_block]; exact hn169_2) | exact hn169_2) (.int .i64 ((rd_T60 l0 x13_1).f2))).trans hx169_3
                      replace hx169_4 := (cell_far (p := ⟨gb168, 2, none⟩) (by first | (rw [add_block]; exact hn169_2) | (show (Addr.add _ _).block ≠ _; rw [add_block]; exact hn169_2) | exact hn169_2) (.int .i64 ((rd_T60 l0 x13_1).f2))).trans hx169_4
                      replace hx169_0 := (cell_far (p := ⟨gb168, 3, none⟩) (by first | (rw [add_block]; exact hn169_3) | (show (Addr.add _ _).block ≠ _; rw [add_block]; exact hn169_3) | exact hn169_3) (.int .i64 ((rd_T60 l0 x13_1).f3))).trans hx169_0
                      replace hx169_1 := (cell_far (p := ⟨gb168, 3, none⟩) (by first | (rw [add_block]; exact hn169_3) | (show (Addr.add _ _).block ≠ _; rw [add_block]; exact hn169_3) | exact hn169_3) (.int .i64 ((rd_T60 l0 x13_1).f3))).trans hx169_1
                      replace hx169_2 := (cell_far (p := ⟨gb168, 3, none⟩) (by first | (rw [add_block]; exact hn169_3) | (show (Addr.add _ _).block ≠ _; rw [add_block]; exact hn169_3) | exact hn169_3) (.int .i64 ((rd_T60 l0 x13_1).f3))).trans hx169_2
                      replace hx169_3 := (cell_far (p := ⟨gb168, 3, none⟩) (by first | (rw [add_block]; exact hn169_3) | (show (Addr.add _ _).block ≠ _; rw [add_block]; exact hn169_3) | exact hn169_3) (.int .i64 ((rd_T60 l0 x13_1).f3))).trans hx169_3
                      replace hx169_4 := (cell_far (p := ⟨gb168, 3, none⟩) (by first | (rw [add_block]; exact hn169_3) | (show (Addr.add _ _).block ≠ _; rw [add_block]; exact hn169_3) | exact hn169_3) (.int .i64 ((rd_T60 l0 x13_1).f3))).trans hx169_4
                      replace hx169_0 := (cell_far (p := ⟨gb168, 4, none⟩) (by first | (rw [add_block]; exact hn169_4) | (show (Addr.add _ _).block ≠ _; rw [add_block]; exact hn169_4) | exact hn169_4) (.int .i64 ((rd_T60 l0 x13_1).f4))).trans hx169_0
                      replace hx169_1 := (cell_far (p := ⟨gb168, 4, none⟩) (by first | (rw [add_block]; exact hn169_4) | (show (Addr.add _ _).block ≠ _; rw [add_block]; exact hn169_4) | exact hn169_4) (.int .i64 ((rd_T60 l0 x13_1).f4))).trans hx169_1
                      replace hx169_2 := (cell_far (p := ⟨gb168, 4, none⟩) (by first | (rw [add_block]; exact hn169_4) | (show (Addr.add _ _).block ≠ _; rw [add_block]; exact hn169_4) | exact hn169_4) (.int .i64 ((rd_T60 l0 x13_1).f4))).trans hx169_2
                      replace hx169_3 := (cell_far (p := ⟨gb168, 4, none⟩) (by first | (rw [add_block]; exact hn169_4) | (show (Addr.add _ _).block ≠ _; rw [add_block]; exact hn169_4) | exact hn169_4) (.int .i64 ((rd_T60 l0 x13_1).f4))).trans hx169_3
                      replace hx169_4 := (cell_far (p := ⟨gb168, 4, none⟩) (by first | (rw [add_block]; exact hn169_4) | (show (Addr.add _ _).block ≠ _; rw [add_block]; exact hn169_4) | exact hn169_4) (.int .i64 ((rd_T60 l0 x13_1).f4))).trans hx169_4
                      (try have hy169_0 := fun (n_ : Nat) => (show (((((((w9.drewN n_).setCell ⟨gb168, 0, none⟩ (.int .i64 ((rd_T60 l0 x13_1).f0))).setCell ⟨gb168, 1, none⟩ (.int .i64 ((rd_T60 l0 x13_1).f1))).setCell ⟨gb168, 2, none⟩ (.int .i64 ((rd_T60 l0 x13_1).f2))).setCell ⟨gb168, 3, none⟩ (.int .i64 ((rd_T60 l0 x13_1).f3))).setCell ⟨gb168, 4, none⟩ (.int .i64 ((rd_T60 l0 x13_1).f4)))).cell? _ = some _ from hx169_0))
                      (try have hy169_1 := fun (n_ : Nat) => (show (((((((w9.drewN n_).setCell ⟨gb168, 0, none⟩ (.int .i64 ((rd_T60 l0 x13_1).f0))).setCell ⟨gb168, 1, none⟩ (.int .i64 ((rd_T60 l0 x13_1).f1))).setCell ⟨gb168, 2, none⟩ (.int .i64 ((rd_T60 l0 x13_1).f2))).setCell ⟨gb168, 3, none⟩ (.int .i64 ((rd_T60 l0 x13_1).f3))).setCell ⟨gb168, 4, none⟩ (.int .i64 ((rd_T60 l0 x13_1).f4)))).cell? _ = some _ from hx169_1))
                      (try have hy169_2 := fun (n_ : Nat) => (show (((((((w9.drewN n_).setCell ⟨gb168, 0, none⟩ (.int .i64 ((rd_T60 l0 x13_1).f0))).setCell ⟨gb168, 1, none⟩ (.int .i64 ((rd_T60 l0 x13_1).f1))).setCell ⟨gb168, 2, none⟩ (.int .i64 ((rd_T60 l0 x13_1).f2))).setCell ⟨gb168, 3, none⟩ (.int .i64 ((rd_T60 l0 x13_1).f3))).setCell ⟨gb168, 4, none⟩ (.int .i64 ((rd_T60 l0 x13_1).f4)))).cell? _ = some _ from hx169_2))
                      (try have hy169_3 := fun (n_ : Nat) => (show (((((((w9.drewN n_).setCell ⟨gb168, 0, none⟩ (.int .i64 ((rd_T60 l0 x13_1).f0))).setCell ⟨gb168, 1, none⟩ (.int .i64 ((rd_T60 l0 x13_1).f1))).setCell ⟨gb168, 2, none⟩ (.int .i64 ((rd_T60 l0 x13_1).f2))).setCell ⟨gb168, 3, none⟩ (.int .i64 ((rd_T60 l0 x13_1).f3))).setCell ⟨gb168, 4, none⟩ (.int .i64 ((rd_T60 l0 x13_1).f4)))).cell? _ = some _ from hx169_3))
                      (try have hy169_4 := fun (n_ : Nat) => (show (((((((w9.drewN n_).setCell ⟨gb168, 0, none⟩ (.int .i64 ((rd_T60 l0 x13_1).f0))).setCell ⟨gb168, 1, none⟩ (.int .i64 ((rd_T60 l0 x13_1).f1))).setCell ⟨gb168, 2, none⟩ (.int .i64 ((rd_T60 l0 x13_1).f2))).setCell ⟨gb168, 3, none⟩ (.int .i64 ((rd_T60 l0 x13_1).f3))).setCell ⟨gb168, 4, none⟩ (.int .i64 ((rd_T60 l0 x13_1).f4)))).cell? _ = some _ from hx169_4))
                      clear hn169_0
                      clear hn169_1
                      clear hn169_2
                      clear hn169_3
                      clear hn169_4
                      replace p169 := eq_true p169
                      replace q169 := eq_true q169
                      go_wp2
                      repeat (go_quiet (fail); try go_wp2)
                      go_meet
                      case rel => exact ⟨_, (decide (((rd_T60 l0 x13_1).f1) > ((rd_T60 l0 x8_1).f1))), (by first | rfl | (simp; done) | (simp [*]; done)), H', ⟨by have := HK1.out; first | omega | exact Nat.le_refl _⟩, ⟨by (with_reducible repeat (first | refine blk_drewN ?_ _ | refine blk_drew ?_ | refine blk_alloc ?_ _)); refine blk_put (cs := #[.int .i64 ((rd_T60 l0 x13_1).f0), .int .i64 ((rd_T60 l0 x13_1).f1), .int .i64 ((rd_T60 l0 x13_1).f2), .int .i64 ((rd_T60 l0 x13_1).f3), .int .i64 0]) ?_ 4 _ rfl; (with_reducible repeat (first | refine blk_drewN ?_ _ | refine blk_drew ?_ | refine blk_alloc ?_ _)); refine blk_put (cs := #[.int .i64 ((rd_T60 l0 x13_1).f0), .int .i64 ((rd_T60 l0 x13_1).f1), .int .i64 ((rd_T60 l0 x13_1).f2), .int .i64 0, .int .i64 0]) ?_ 3 _ rfl; (with_reducible repeat (first | refine blk_drewN ?_ _ | refine blk_drew ?_ | refine blk_alloc ?_ _)); refine blk_put (cs := #[.int .i64 ((rd_T60 l0 x13_1).f0), .int .i64 ((rd_T60 l0 x13_1).f1), .int .i64 0, .int .i64 0, .int .i64 0]) ?_ 2 _ rfl; (with_reducible repeat (first | refine blk_drewN ?_ _ | refine blk_drew ?_ | refine blk_alloc ?_ _)); refine blk_put (cs := #[.int .i64 ((rd_T60 l0 x13_1).f0), .int .i64 0, .int .i64 0, .int .i64 0, .int .i64 0]) ?_ 1 _ rfl; (with_reducible repeat (first | refine blk_drewN ?_ _ | refine blk_drew ?_ | refine blk_alloc ?_ _)); refine blk_put (cs := #[.int .i64 0, .int .i64 0, .int .i64 0, .int .i64 0, .int .i64 0]) ?_ 0 _ rfl; (with_reducible repeat (first | refine blk_drewN ?_ _ | refine blk_drew ?_ | refine blk_alloc ?_ _)); exact BK168.out⟩, ⟨by repeat (first | (with_reducible first | exact HB.out | apply below_alloc | apply pw_below_drewN | apply below_drew1 | refine below_set ?_ GE168.out) | exact HB.out)⟩⟩
                    · rw [if_neg c13] at H
                      exact absurd H (by simp)
                  · rw [if_neg c12] at H
                    exact absurd H (by simp)
              case rest =>
                clear HC8
                try clear c1
                try clear p1
                try clear q1
                try clear hx1
                try clear p2
                try clear c4
                try clear c4b0
                try clear c5
                try clear c5b0
                try clear c6
                try clear c6b0
                try clear c7
                try clear c7b0
                try clear c7b1
                try clear c11
                try clear c11b0
                try clear c12
                try clear c12b0
                try clear c13
                try clear c13b0
                try clear hcz10_0
                try clear hcz10_1
                try clear hcz10_2
                try clear hcz10_3
                try clear hcz10_4
                try clear hcz14_0
                try clear hcz14_1
                try clear hcz14_2
                try clear hcz14_3
                try clear hcz14_4
                try clear hfz10_0
                try clear hfz10_1
                try clear hfz10_2
                try clear hfz10_3
                try clear hfz10_4
                try clear hfz14_0
                try clear hfz14_1
                try clear hfz14_2
                try clear hfz14_3
                try clear hfz14_4
                try clear hx167_0
                try clear hx167_1
                try clear hx167_2
                try clear hx167_3
                try clear hx167_4
                try clear hx169_0
                try clear hx169_1
                try clear hx169_2
                try clear hx169_3
                try clear hx169_4
                try clear p167
                try clear p169
                try clear p2
                try clear q167
                try clear q169
                obtain ⟨kq, x33_7, rfl, HA, HJ7, BK168, HB⟩ := hcut
                cases kq with
                | zero => exact absurd HA.out (by simp [impl_tariffAt.j1])
                | succ kj7 =>
                  have H := HA.out
                  clear HA
                  simp only [impl_tariffAt.j1] at H
                  by_cases c15 : x33_7 = true
                  · subst c15
                    have H1 : (if ((rd_T60 l0 x13_1).f1) ≤ (Int.tmod a2 86400) then (if x7_1 < 0 then (impl_tariffAt.l0 kj7 l0 a1 a2 x13_1 x13_1 l0 (l0.length : Int) (wrap64 (x13_1 + 1))) else (if 0 ≤ x7_1 then (if x7_1 < (l0.length : Int) then (if ((rd_T60 l0 x13_1).f1) > ((rd_T60 l0 x7_1).f1) then (impl_tariffAt.l0 kj7 l0 a1 a2 x13_1 x13_1 l0 (l0.length : Int) (wrap64 (x13_1 + 1))) else (impl_tariffAt.l0 kj7 l0 a1 a2 x7_1 x13_1 l0 (l0.length : Int) (wrap64 (x13_1 + 1)))) else (none)) else (none))) else (impl_tariffAt.l0 kj7 l0 a1 a2 x7_1 x13_1 l0 (l0.length : Int) (wrap64 (x13_1 + 1)))) = some r := by rw [if_pos rfl] at H; exact H
                    clear H
                    have H := H1
                    clear H1
                    by_cases c16 : ((rd_T60 l0 x13_1).f1) ≤ (Int.tmod a2 86400)
                    · rw [if_pos c16] at H
                      have c16b0 : decide (((rd_T60 l0 x13_1).f1) ≤ (Int.tmod a2 86400)) = true := decide_eq_true c16
                      clear c16
                      by_cases c17 : x7_1 < 0
                      · rw [if_pos c17] at H
                        have c17b0 : decide (x7_1 < 0) = true := decide_eq_true c17
                        clear c17
                        have H' := Aside0.mk H
                        clear H
                        have hcz18_0 : wc.cell? ⟨gb168, 0, none⟩ = some (.int .i64 ((rd_T60 l0 x13_1).f0)) := (blk_cell BK168.out 0).trans rfl
                        have hcz18_1 : wc.cell? ⟨gb168, 1, none⟩ = some (.int .i64 ((rd_T60 l0 x13_1).f1)) := (blk_cell BK168.out 1).trans rfl
                        have hcz18_2 : wc.cell? ⟨gb168, 2, none⟩ = some (.int .i64 ((rd_T60 l0 x13_1).f2)) := (blk_cell BK168.out 2).trans rfl
                        have hcz18_3 : wc.cell? ⟨gb168, 3, none⟩ = some (.int .i64 ((rd_T60 l0 x13_1).f3)) := (blk_cell BK168.out 3).trans rfl
                        have hcz18_4 : wc.cell? ⟨gb168, 4, none⟩ = some (.int .i64 ((rd_T60 l0 x13_1).f4)) := (blk_cell BK168.out 4).trans rfl
                        have hfz18_0 := blk_frozen BK168.out 0
                        have hfz18_1 := blk_frozen BK168.out 1
                        have hfz18_2 := blk_frozen BK168.out 2
                        have hfz18_3 := blk_frozen BK168.out 3
                        have hfz18_4 := blk_frozen BK168.out 4
                        go_wp2
                        repeat (go_quiet (fail); try go_wp2)
                        go_roundg kj7
                        case measure => have := HK1.out; have := HJ7.out; omega
                        case rel => exact ⟨(x13_1), (x13_1), (wrap64 (x13_1 + 1)), (by first | rfl | (simp; done) | (simp [*]; done)), (by first | rfl | (simp; done) | (simp [*]; done)), (by first | rfl | (simp; done) | (simp [*]; done)), H', ⟨by have := HK1.out; have := HJ7.out; omega⟩, ⟨by repeat (first | (with_reducible first | exact HB.out | apply below_alloc | apply pw_below_drewN | apply below_drew1 | refine below_set ?_ GE168.out) | exact HB.out)⟩⟩
                      · rw [if_neg c17] at H
                        have c17b0 : decide (x7_1 < 0) = false := decide_eq_false c17
                        clear c17
                        by_cases c19 : 0 ≤ x7_1
                        · rw [if_pos c19] at H
                          have c19b0 : decide (0 ≤ x7_1) = true := decide_eq_true c19
                          clear c19
                          by_cases c20 : x7_1 < (l0.length : Int)
                          · rw [if_pos c20] at H
                            have c20b0 : decide (x7_1 < (l0.length : Int)) = true := decide_eq_true c20
                            clear c20
                            by_cases c21 : ((rd_T60 l0 x13_1).f1) > ((rd_T60 l0 x7_1).f1)
                            · rw [if_pos c21] at H
                              have c21b0 : decide (((rd_T60 l0 x7_1).f1) < ((rd_T60 l0 x13_1).f1)) = true := decide_eq_true c21
                              clear c21
                              have H' := Aside0.mk H
                              clear H
                              have hcz22_0 : wc.cell? ⟨gb168, 0, none⟩ = some (.int .i64 ((rd_T60 l0 x13_1).f0)) := (blk_cell BK168.out 0).trans rfl
                              have hcz22_1 : wc.cell? ⟨gb168, 1, none⟩ = some (.int .i64 ((rd_T60 l0 x13_1).f1)) := (blk_cell BK168.out 1).trans rfl
                              have hcz22_2 : wc.cell? ⟨gb168, 2, none⟩ = some (.int .i64 ((rd_T60 l0 x13_1).f2)) := (blk_cell BK168.out 2).trans rfl
                              have hcz22_3 : wc.cell? ⟨gb168, 3, none⟩ = some (.int .i64 ((rd_T60 l0 x13_1).f3)) := (blk_cell BK168.out 3).trans rfl
                              have hcz22_4 : wc.cell? ⟨gb168, 4, none⟩ = some (.int .i64 ((rd_T60 l0 x13_1).f4)) := (blk_cell BK168.out 4).trans rfl
                              have hfz22_0 := blk_frozen BK168.out 0
                              have hfz22_1 := blk_frozen BK168.out 1
                              have hfz22_2 := blk_frozen BK168.out 2
                              have hfz22_3 := blk_frozen BK168.out 3
                              have hfz22_4 := blk_frozen BK168.out 4
                              have p170 : 0 ≤ (x7_1 : Int) := of_decide_eq_true (by first | (with_reducible assumption) | assumption)
                              have q170 : x7_1 < (l0.length : Int) := of_decide_eq_true (by first | (with_reducible assumption) | assumption)
                              obtain ⟨ad170, e170, hx170_0, hx170_1, hx170_2, hx170_3, hx170_4⟩ := at_T60 HR0.out x7_1 p170 q170
                              obtain rfl : ad167 = ad170 := (by injection e170)
                              replace hx170_0 := (HB.out.cell (World.block_lt_of_cell? w _ hx170_0)).trans hx170_0
                              replace hx170_1 := (HB.out.cell (World.block_lt_of_cell? w _ hx170_1)).trans hx170_1
                              replace hx170_2 := (HB.out.cell (World.block_lt_of_cell? w _ hx170_2)).trans hx170_2
                              replace hx170_3 := (HB.out.cell (World.block_lt_of_cell? w _ hx170_3)).trans hx170_3
                              replace hx170_4 := (HB.out.cell (World.block_lt_of_cell? w _ hx170_4)).trans hx170_4
                              replace p170 := eq_true p170
                              replace q170 := eq_true q170
                              go_wp2
                              repeat (go_quiet (fail); try go_wp2)
                              go_roundg kj7
                              case measure => have := HK1.out; have := HJ7.out; omega
                              case rel => exact ⟨(x13_1), (x13_1), (wrap64 (x13_1 + 1)), (by first | rfl | (simp; done) | (simp [*]; done)), (by first | rfl | (simp; done) | (simp [*]; done)), (by first | rfl | (simp; done) | (simp [*]; done)), H', ⟨by have := HK1.out; have := HJ7.out; omega⟩, ⟨by repeat (first | (with_reducible first | exact HB.out | apply below_alloc | apply pw_below_drewN | apply below_drew1 | refine below_set ?_ GE168.out) | exact HB.out)⟩⟩
                            · rw [if_neg c21] at H
                              have c21b0 : decide (((rd_T60 l0 x7_1).f1) < ((rd_T60 l0 x13_1).f1)) = false := decide_eq_false c21
                              clear c21
                              have H' := Aside0.mk H
                              clear H
                              have hcz23_0 : wc.cell? ⟨gb168, 0, none⟩ = some (.int .i64 ((rd_T60 l0 x13_1).f0)) := (blk_cell BK168.out 0).trans rfl
                              have hcz23_1 : wc.cell? ⟨gb168, 1, none⟩ = some (.int .i64 ((rd_T60 l0 x13_1).f1)) := (blk_cell BK168.out 1).trans rfl
                              have hcz23_2 : wc.cell? ⟨gb168, 2, none⟩ = some (.int .i64 ((rd_T60 l0 x13_1).f2)) := (blk_cell BK168.out 2).trans rfl
                              have hcz23_3 : wc.cell? ⟨gb168, 3, none⟩ = some (.int .i64 ((rd_T60 l0 x13_1).f3)) := (blk_cell BK168.out 3).trans rfl
                              have hcz23_4 : wc.cell? ⟨gb168, 4, none⟩ = some (.int .i64 ((rd_T60 l0 x13_1).f4)) := (blk_cell BK168.out 4).trans rfl
                              have hfz23_0 := blk_frozen BK168.out 0
                              have hfz23_1 := blk_frozen BK168.out 1
                              have hfz23_2 := blk_frozen BK168.out 2
                              have hfz23_3 := blk_frozen BK168.out 3
                              have hfz23_4 := blk_frozen BK168.out 4
                              have p170 : 0 ≤ (x7_1 : Int) := of_decide_eq_true (by first | (with_reducible assumption) | assumption)
                              have q170 : x7_1 < (l0.length : Int) := of_decide_eq_true (by first | (with_reducible assumption) | assumption)
                              obtain ⟨ad170, e170, hx170_0, hx170_1, hx170_2, hx170_3, hx170_4⟩ := at_T60 HR0.out x7_1 p170 q170
                              obtain rfl : ad167 = ad170 := (by injection e170)
                              replace hx170_0 := (HB.out.cell (World.block_lt_of_cell? w _ hx170_0)).trans hx170_0
                              replace hx170_1 := (HB.out.cell (World.block_lt_of_cell? w _ hx170_1)).trans hx170_1
                              replace hx170_2 := (HB.out.cell (World.block_lt_of_cell? w _ hx170_2)).trans hx170_2
                              replace hx170_3 := (HB.out.cell (World.block_lt_of_cell? w _ hx170_3)).trans hx170_3
                              replace hx170_4 := (HB.out.cell (World.block_lt_of_cell? w _ hx170_4)).trans hx170_4
                              replace p170 := eq_true p170
                              replace q170 := eq_true q170
                              go_wp2
                              repeat (go_quiet (fail); try go_wp2)
                              go_roundg kj7
                              case measure => have := HK1.out; have := HJ7.out; omega
                              case rel => exact ⟨(x7_1), (x13_1), (wrap64 (x13_1 + 1)), (by first | rfl | (simp; done) | (simp [*]; done)), (by first | rfl | (simp; done) | (simp [*]; done)), (by first | rfl | (simp; done) | (simp [*]; done)), H', ⟨by have := HK1.out; have := HJ7.out; omega⟩, ⟨by repeat (first | (with_reducible first | exact HB.out | apply below_alloc | apply pw_below_drewN | apply below_drew1 | refine below_set ?_ GE168.out) | exact HB.out)⟩⟩
                          · rw [if_neg c20] at H
                            exact absurd H (by simp)
                        · rw [if_neg c19] at H
                          exact absurd H (by simp)
                    · rw [if_neg c16] at H
                      have c16b0 : decide (((rd_T60 l0 x13_1).f1) ≤ (Int.tmod a2 86400)) = false := decide_eq_false c16
                      clear c16
                      have H' := Aside0.mk H
                      clear H
                      have hcz24_0 : wc.cell? ⟨gb168, 0, none⟩ = some (.int .i64 ((rd_T60 l0 x13_1).f0)) := (blk_cell BK168.out 0).trans rfl
                      have hcz24_1 : wc.cell? ⟨gb168, 1, none⟩ = some (.int .i64 ((rd_T60 l0 x13_1).f1)) := (blk_cell BK168.out 1).trans rfl
                      have hcz24_2 : wc.cell? ⟨gb168, 2, none⟩ = some (.int .i64 ((rd_T60 l0 x13_1).f2)) := (blk_cell BK168.out 2).trans rfl
                      have hcz24_3 : wc.cell? ⟨gb168, 3, none⟩ = some (.int .i64 ((rd_T60 l0 x13_1).f3)) := (blk_cell BK168.out 3).trans rfl
                      have hcz24_4 : wc.cell? ⟨gb168, 4, none⟩ = some (.int .i64 ((rd_T60 l0 x13_1).f4)) := (blk_cell BK168.out 4).trans rfl
                      have hfz24_0 := blk_frozen BK168.out 0
                      have hfz24_1 := blk_frozen BK168.out 1
                      have hfz24_2 := blk_frozen BK168.out 2
                      have hfz24_3 := blk_frozen BK168.out 3
                      have hfz24_4 := blk_frozen BK168.out 4
                      go_wp2
                      repeat (go_quiet (fail); try go_wp2)
                      go_roundg kj7
                      case measure => have := HK1.out; have := HJ7.out; omega
                      case rel => exact ⟨(x7_1), (x13_1), (wrap64 (x13_1 + 1)), (by first | rfl | (simp; done) | (simp [*]; done)), (by first | rfl | (simp; done) | (simp [*]; done)), (by first | rfl | (simp; done) | (simp [*]; done)), H', ⟨by have := HK1.out; have := HJ7.out; omega⟩, ⟨by repeat (first | (with_reducible first | exact HB.out | apply below_alloc | apply pw_below_drewN | apply below_drew1 | refine below_set ?_ GE168.out) | exact HB.out)⟩⟩
                  · replace c15 := Bool.eq_false_iff.mpr c15
                    subst c15
                    have H1 : (if ((rd_T60 l0 x13_1).f1) ≤ (Int.tmod a2 86400) then (if x7_1 < 0 then (impl_tariffAt.l0 kj7 l0 a1 a2 x13_1 x8_1 l0 (l0.length : Int) (wrap64 (x13_1 + 1))) else (if 0 ≤ x7_1 then (if x7_1 < (l0.length : Int) then (if ((rd_T60 l0 x13_1).f1) > ((rd_T60 l0 x7_1).f1) then (impl_tariffAt.l0 kj7 l0 a1 a2 x13_1 x8_1 l0 (l0.length : Int) (wrap64 (x13_1 + 1))) else (impl_tariffAt.l0 kj7 l0 a1 a2 x7_1 x8_1 l0 (l0.length : Int) (wrap64 (x13_1 + 1)))) else (none)) else (none))) else (impl_tariffAt.l0 kj7 l0 a1 a2 x7_1 x8_1 l0 (l0.length : Int) (wrap64 (x13_1 + 1)))) = some r := by rw [if_neg (show ¬ (false = true) by decide)] at H; exact H
                    clear H
                    have H := H1
                    clear H1
                    by_cases c25 : ((rd_T60 l0 x13_1).f1) ≤ (Int.tmod a2 86400)
                    · rw [if_pos c25] at H
                      have c25b0 : decide (((rd_T60 l0 x13_1).f1) ≤ (Int.tmod a2 86400)) = true := decide_eq_true c25
                      clear c25
                      by_cases c26 : x7_1 < 0
                      · rw [if_pos c26] at H
                        have c26b0 : decide (x7_1 < 0) = true := decide_eq_true c26
                        clear c26
                        have H' := Aside0.mk H
                        clear H
                        have hcz27_0 : wc.cell? ⟨gb168, 0, none⟩ = some (.int .i64 ((rd_T60 l0 x13_1).f0)) := (blk_cell BK168.out 0).trans rfl
                        have hcz27_1 : wc.cell? ⟨gb168, 1, none⟩ = some (.int .i64 ((rd_T60 l0 x13_1).f1)) := (blk_cell BK168.out 1).trans rfl
                        have hcz27_2 : wc.cell? ⟨gb168, 2, none⟩ = some (.int .i64 ((rd_T60 l0 x13_1).f2)) := (blk_cell BK168.out 2).trans rfl
                        have hcz27_3 : wc.cell? ⟨gb168, 3, none⟩ = some (.int .i64 ((rd_T60 l0 x13_1).f3)) := (blk_cell BK168.out 3).trans rfl
                        have hcz27_4 : wc.cell? ⟨gb168, 4, none⟩ = some (.int .i64 ((rd_T60 l0 x13_1).f4)) := (blk_cell BK168.out 4).trans rfl
                        have hfz27_0 := blk_frozen BK168.out 0
                        have hfz27_1 := blk_frozen BK168.out 1
                        have hfz27_2 := blk_frozen BK168.out 2
                        have hfz27_3 := blk_frozen BK168.out 3
                        have hfz27_4 := blk_frozen BK168.out 4
                        go_wp2
                        repeat (go_quiet (fail); try go_wp2)
                        go_roundg kj7
                        case measure => have := HK1.out; have := HJ7.out; omega
                        case rel => exact ⟨(x13_1), (x8_1), (wrap64 (x13_1 + 1)), (by first | rfl | (simp; done) | (simp [*]; done)), (by first | rfl | (simp; done) | (simp [*]; done)), (by first | rfl | (simp; done) | (simp [*]; done)), H', ⟨by have := HK1.out; have := HJ7.out; omega⟩, ⟨by repeat (first | (with_reducible first | exact HB.out | apply below_alloc | apply pw_below_drewN | apply below_drew1 | refine below_set ?_ GE168.out) | exact HB.out)⟩⟩
                      · rw [if_neg c26] at H
                        have c26b0 : decide (x7_1 < 0) = false := decide_eq_false c26
                        clear c26
                        by_cases c28 : 0 ≤ x7_1
                        · rw [if_pos c28] at H
                          have c28b0 : decide (0 ≤ x7_1) = true := decide_eq_true c28
                          clear c28
                          by_cases c29 : x7_1 < (l0.length : Int)
                          · rw [if_pos c29] at H
                            have c29b0 : decide (x7_1 < (l0.length : Int)) = true := decide_eq_true c29
                            clear c29
                            by_cases c30 : ((rd_T60 l0 x13_1).f1) > ((rd_T60 l0 x7_1).f1)
                            · rw [if_pos c30] at H
                              have c30b0 : decide (((rd_T60 l0 x7_1).f1) < ((rd_T60 l0 x13_1).f1)) = true := decide_eq_true c30
                              clear c30
                              have H' := Aside0.mk H
                              clear H
                              have hcz31_0 : wc.cell? ⟨gb168, 0, none⟩ = some (.int .i64 ((rd_T60 l0 x13_1).f0)) := (blk_cell BK168.out 0).trans rfl
                              have hcz31_1 : wc.cell? ⟨gb168, 1, none⟩ = some (.int .i64 ((rd_T60 l0 x13_1).f1)) := (blk_cell BK168.out 1).trans rfl
                              have hcz31_2 : wc.cell? ⟨gb168, 2, none⟩ = some (.int .i64 ((rd_T60 l0 x13_1).f2)) := (blk_cell BK168.out 2).trans rfl
                              have hcz31_3 : wc.cell? ⟨gb168, 3, none⟩ = some (.int .i64 ((rd_T60 l0 x13_1).f3)) := (blk_cell BK168.out 3).trans rfl
                              have hcz31_4 : wc.cell? ⟨gb168, 4, none⟩ = some (.int .i64 ((rd_T60 l0 x13_1).f4)) := (blk_cell BK168.out 4).trans rfl
                              have hfz31_0 := blk_frozen BK168.out 0
                              have hfz31_1 := blk_frozen BK168.out 1
                              have hfz31_2 := blk_frozen BK168.out 2
                              have hfz31_3 := blk_frozen BK168.out 3
                              have hfz31_4 := blk_frozen BK168.out 4
                              have p171 : 0 ≤ (x7_1 : Int) := of_decide_eq_true (by first | (with_reducible assumption) | assumption)
                              have q171 : x7_1 < (l0.length : Int) := of_decide_eq_true (by first | (with_reducible assumption) | assumption)
                              obtain ⟨ad171, e171, hx171_0, hx171_1, hx171_2, hx171_3, hx171_4⟩ := at_T60 HR0.out x7_1 p171 q171
                              obtain rfl : ad167 = ad171 := (by injection e171)
                              replace hx171_0 := (HB.out.cell (World.block_lt_of_cell? w _ hx171_0)).trans hx171_0
                              replace hx171_1 := (HB.out.cell (World.block_lt_of_cell? w _ hx171_1)).trans hx171_1
                              replace hx171_2 := (HB.out.cell (World.block_lt_of_cell? w _ hx171_2)).trans hx171_2
                              replace hx171_3 := (HB.out.cell (World.block_lt_of_cell? w _ hx171_3)).trans hx171_3
                              replace hx171_4 := (HB.out.cell (World.block_lt_of_cell? w _ hx171_4)).trans hx171_4
                              replace p171 := eq_true p171
                              replace q171 := eq_true q171
                              go_wp2
                              repeat (go_quiet (fail); try go_wp2)
                              go_roundg kj7
                              case measure => have := HK1.out; have := HJ7.out; omega
                              case rel => exact ⟨(x13_1), (x8_1), (wrap64 (x13_1 + 1)), (by first | rfl | (simp; done) | (simp [*]; done)), (by first | rfl | (simp; done) | (simp [*]; done)), (by first | rfl | (simp; done) | (simp [*]; done)), H', ⟨by have := HK1.out; have := HJ7.out; omega⟩, ⟨by repeat (first | (with_reducible first | exact HB.out | apply below_alloc | apply pw_below_drewN | apply below_drew1 | refine below_set ?_ GE168.out) | exact HB.out)⟩⟩
                            · rw [if_neg c30] at H
                              have c30b0 : decide (((rd_T60 l0 x7_1).f1) < ((rd_T60 l0 x13_1).f1)) = false := decide_eq_false c30
                              clear c30
                              have H' := Aside0.mk H
                              clear H
                              have hcz32_0 : wc.cell? ⟨gb168, 0, none⟩ = some (.int .i64 ((rd_T60 l0 x13_1).f0)) := (blk_cell BK168.out 0).trans rfl
                              have hcz32_1 : wc.cell? ⟨gb168, 1, none⟩ = some (.int .i64 ((rd_T60 l0 x13_1).f1)) := (blk_cell BK168.out 1).trans rfl
                              have hcz32_2 : wc.cell? ⟨gb168, 2, none⟩ = some (.int .i64 ((rd_T60 l0 x13_1).f2)) := (blk_cell BK168.out 2).trans rfl
                              have hcz32_3 : wc.cell? ⟨gb168, 3, none⟩ = some (.int .i64 ((rd_T60 l0 x13_1).f3)) := (blk_cell BK168.out 3).trans rfl
                              have hcz32_4 : wc.cell? ⟨gb168, 4, none⟩ = some (.int .i64 ((rd_T60 l0 x13_1).f4)) := (blk_cell BK168.out 4).trans rfl
                              have hfz32_0 := blk_frozen BK168.out 0
                              have hfz32_1 := blk_frozen BK168.out 1
                              have hfz32_2 := blk_frozen BK168.out 2
                              have hfz32_3 := blk_frozen BK168.out 3
                              have hfz32_4 := blk_frozen BK168.out 4
                              have p171 : 0 ≤ (x7_1 : Int) := of_decide_eq_true (by first | (with_reducible assumption) | assumption)
                              have q171 : x7_1 < (l0.length : Int) := of_decide_eq_true (by first | (with_reducible assumption) | assumption)
                              obtain ⟨ad171, e171, hx171_0, hx171_1, hx171_2, hx171_3, hx171_4⟩ := at_T60 HR0.out x7_1 p171 q171
                              obtain rfl : ad167 = ad171 := (by injection e171)
                              replace hx171_0 := (HB.out.cell (World.block_lt_of_cell? w _ hx171_0)).trans hx171_0
                              replace hx171_1 := (HB.out.cell (World.block_lt_of_cell? w _ hx171_1)).trans hx171_1
                              replace hx171_2 := (HB.out.cell (World.block_lt_of_cell? w _ hx171_2)).trans hx171_2
                              replace hx171_3 := (HB.out.cell (World.block_lt_of_cell? w _ hx171_3)).trans hx171_3
                              replace hx171_4 := (HB.out.cell (World.block_lt_of_cell? w _ hx171_4)).trans hx171_4
                              replace p171 := eq_true p171
                              replace q171 := eq_true q171
                              go_wp2
                              repeat (go_quiet (fail); try go_wp2)
                              go_roundg kj7
                              case measure => have := HK1.out; have := HJ7.out; omega
                              case rel => exact ⟨(x7_1), (x8_1), (wrap64 (x13_1 + 1)), (by first | rfl | (simp; done) | (simp [*]; done)), (by first | rfl | (simp; done) | (simp [*]; done)), (by first | rfl | (simp; done) | (simp [*]; done)), H', ⟨by have := HK1.out; have := HJ7.out; omega⟩, ⟨by repeat (first | (with_reducible first | exact HB.out | apply below_alloc | apply pw_below_drewN | apply below_drew1 | refine below_set ?_ GE168.out) | exact HB.out)⟩⟩
                          · rw [if_neg c29] at H
                            exact absurd H (by simp)
                        · rw [if_neg c28] at H
                          exact absurd H (by simp)
                    · rw [if_neg c25] at H
                      have c25b0 : decide (((rd_T60 l0 x13_1).f1) ≤ (Int.tmod a2 86400)) = false := decide_eq_false c25
                      clear c25
                      have H' := Aside0.mk H
                      clear H
                      have hcz33_0 : wc.cell? ⟨gb168, 0, none⟩ = some (.int .i64 ((rd_T60 l0 x13_1).f0)) := (blk_cell BK168.out 0).trans rfl
                      have hcz33_1 : wc.cell? ⟨gb168, 1, none⟩ = some (.int .i64 ((rd_T60 l0 x13_1).f1)) := (blk_cell BK168.out 1).trans rfl
                      have hcz33_2 : wc.cell? ⟨gb168, 2, none⟩ = some (.int .i64 ((rd_T60 l0 x13_1).f2)) := (blk_cell BK168.out 2).trans rfl
                      have hcz33_3 : wc.cell? ⟨gb168, 3, none⟩ = some (.int .i64 ((rd_T60 l0 x13_1).f3)) := (blk_cell BK168.out 3).trans rfl
                      have hcz33_4 : wc.cell? ⟨gb168, 4, none⟩ = some (.int .i64 ((rd_T60 l0 x13_1).f4)) := (blk_cell BK168.out 4).trans rfl
                      have hfz33_0 := blk_frozen BK168.out 0
                      have hfz33_1 := blk_frozen BK168.out 1
                      have hfz33_2 := blk_frozen BK168.out 2
                      have hfz33_3 := blk_frozen BK168.out 3
                      have hfz33_4 := blk_frozen BK168.out 4
                      go_wp2
                      repeat (go_quiet (fail); try go_wp2)
                      go_roundg kj7
                      case measure => have := HK1.out; have := HJ7.out; omega
                      case rel => exact ⟨(x7_1), (x8_1), (wrap64 (x13_1 + 1)), (by first | rfl | (simp; done) | (simp [*]; done)), (by first | rfl | (simp; done) | (simp [*]; done)), (by first | rfl | (simp; done) | (simp [*]; done)), H', ⟨by have := HK1.out; have := HJ7.out; omega⟩, ⟨by repeat (first | (with_reducible first | exact HB.out | apply below_alloc | apply pw_below_drewN | apply below_drew1 | refine below_set ?_ GE168.out) | exact HB.out)⟩⟩
            · rw [if_neg c7] at H
              have c7b0 : (((rd_T60 l0 x13_1).f0) == a1) = false := beq_eq_false_iff_ne.mpr c7
              have c7b1 : (((rd_T60 l0 x13_1).f0) != a1) = true := bne_iff_ne.mpr c7
              have H' := Aside0.mk H
              clear H
              have p167 : 0 ≤ (x13_1 : Int) := of_decide_eq_true (by first | (with_reducible assumption) | assumption)
              have q167 : x13_1 < (l0.length : Int) := of_decide_eq_true (by first | (with_reducible assumption) | assumption)
              obtain ⟨ad167, e167, hx167_0, hx167_1, hx167_2, hx167_3, hx167_4⟩ := at_T60 HR0.out x13_1 p167 q167
              cases e167
              replace hx167_0 := (HB.out.cell (World.block_lt_of_cell? w _ hx167_0)).trans hx167_0
              replace hx167_1 := (HB.out.cell (World.block_lt_of_cell? w _ hx167_1)).trans hx167_1
              replace hx167_2 := (HB.out.cell (World.block_lt_of_cell? w _ hx167_2)).trans hx167_2
              replace hx167_3 := (HB.out.cell (World.block_lt_of_cell? w _ hx167_3)).trans hx167_3
              replace hx167_4 := (HB.out.cell (World.block_lt_of_cell? w _ hx167_4)).trans hx167_4
              replace p167 := eq_true p167
              replace q167 := eq_true q167
              go_wp2_with (first | ((with_reducible refine gate_dst (N := 10) rfl ?_); refine box_event ?hg (N := 10) ?hd (cs := #[.int .i64 0, .int .i64 0, .int .i64 0, .int .i64 0, .int .i64 0]) (t := 60) ?hr ?_; (case hd => rfl); (case hg => rfl); (case hr => first | (go_simp; done) | (go_simp; rfl)); intro gb168 hg w34 hbox hb; have n0_ := Aside0.mk (below_step (by repeat (first | (with_reducible first | exact HB.out | apply below_alloc | apply pw_below_drewN | apply below_drew1) | exact HB.out)) hb); have n1_ := Aside0.mk (hbox); have n2_ := Aside0.mk ((by rw [hg]; exact (below_size (by repeat (first | (with_reducible first | exact HB.out | apply below_alloc | apply pw_below_drewN | apply below_drew1) | exact HB.out))) : w.heap.size ≤ gb168)); have n3_ := Aside0.mk ((by rw [hg]; exact (below_size (by repeat (first | (with_reducible first | exact HB.out | apply below_alloc | apply pw_below_drewN | apply below_drew1) | exact HB.out))) : w.heap.size ≤ gb168)); clear HB; have HB := n0_; have BK168 := n1_; have GW168 := n2_; have GE168 := n3_; clear n0_ n1_ n2_ n3_; clear hb hbox hg; have hcz35_0 : w34.cell? ⟨gb168, 0, none⟩ = some (.int .i64 0) := (blk_cell BK168.out 0).trans rfl; have hcz35_1 : w34.cell? ⟨gb168, 1, none⟩ = some (.int .i64 0) := (blk_cell BK168.out 1).trans rfl; have hcz35_2 : w34.cell? ⟨gb168, 2, none⟩ = some (.int .i64 0) := (blk_cell BK168.out 2).trans rfl; have hcz35_3 : w34.cell? ⟨gb168, 3, none⟩ = some (.int .i64 0) := (blk_cell BK168.out 3).trans rfl; have hcz35_4 : w34.cell? ⟨gb168, 4, none⟩ = some (.int .i64 0) := (blk_cell BK168.out 4).trans rfl; have hfz35_0 := blk_frozen BK168.out 0; have hfz35_1 := blk_frozen BK168.out 1; have hfz35_2 := blk_frozen BK168.out 2; have hfz35_3 := blk_frozen BK168.out 3; have hfz35_4 := blk_frozen BK168.out 4))
              repeat (go_quiet (first | ((with_reducible refine gate_dst (N := 10) rfl ?_); refine box_event ?hg (N := 10) ?hd (cs := #[.int .i64 0, .int .i64 0, .int .i64 0, .int .i64 0, .int .i64 0]) (t := 60) ?hr ?_; (case hd => rfl); (case hg => rfl); (case hr => first | (go_simp; done) | (go_simp; rfl)); intro gb168 hg w34 hbox hb; have n0_ := Aside0.mk (below_step (by repeat (first | (with_reducible first | exact HB.out | apply below_alloc | apply pw_below_drewN | apply below_drew1) | exact HB.out)) hb); have n1_ := Aside0.mk (hbox); have n2_ := Aside0.mk ((by rw [hg]; exact (below_size (by repeat (first | (with_reducible first | exact HB.out | apply below_alloc | apply pw_below_drewN | apply below_drew1) | exact HB.out))) : w.heap.size ≤ gb168)); have n3_ := Aside0.mk ((by rw [hg]; exact (below_size (by repeat (first | (with_reducible first | exact HB.out | apply below_alloc | apply pw_below_drewN | apply below_drew1) | exact HB.out))) : w.heap.size ≤ gb168)); clear HB; have HB := n0_; have BK168 := n1_; have GW168 := n2_; have GE168 := n3_; clear n0_ n1_ n2_ n3_; clear hb hbox hg; have hcz35_0 : w34.cell? ⟨gb168, 0, none⟩ = some (.int .i64 0) := (blk_cell BK168.out 0).trans rfl; have hcz35_1 : w34.cell? ⟨gb168, 1, none⟩ = some (.int .i64 0) := (blk_cell BK168.out 1).trans rfl; have hcz35_2 : w34.cell? ⟨gb168, 2, none⟩ = some (.int .i64 0) := (blk_cell BK168.out 2).trans rfl; have hcz35_3 : w34.cell? ⟨gb168, 3, none⟩ = some (.int .i64 0) := (blk_cell BK168.out 3).trans rfl; have hcz35_4 : w34.cell? ⟨gb168, 4, none⟩ = some (.int .i64 0) := (blk_cell BK168.out 4).trans rfl; have hfz35_0 := blk_frozen BK168.out 0; have hfz35_1 := blk_frozen BK168.out 1; have hfz35_2 := blk_frozen BK168.out 2; have hfz35_3 := blk_frozen BK168.out 3; have hfz35_4 := blk_frozen BK168.out 4)); try go_wp2_with (first | ((with_reducible refine gate_dst (N := 10) rfl ?_); refine box_event ?hg (N := 10) ?hd (cs := #[.int .i64 0, .int .i64 0, .int .i64 0, .int .i64 0, .int .i64 0]) (t := 60) ?hr ?_; (case hd => rfl); (case hg => rfl); (case hr => first | (go_simp; done) | (go_simp; rfl)); intro gb168 hg w34 hbox hb; have n0_ := Aside0.mk (below_step (by repeat (first | (with_reducible first | exact HB.out | apply below_alloc | apply pw_below_drewN | apply below_drew1) | exact HB.out)) hb); have n1_ := Aside0.mk (hbox); have n2_ := Aside0.mk ((by rw [hg]; exact (below_size (by repeat (first | (with_reducible first | exact HB.out | apply below_alloc | apply pw_below_drewN | apply below_drew1) | exact HB.out))) : w.heap.size ≤ gb168)); have n3_ := Aside0.mk ((by rw [hg]; exact (below_size (by repeat (first | (with_reducible first | exact HB.out | apply below_alloc | apply pw_below_drewN | apply below_drew1) | exact HB.out))) : w.heap.size ≤ gb168)); clear HB; have HB := n0_; have BK168 := n1_; have GW168 := n2_; have GE168 := n3_; clear n0_ n1_ n2_ n3_; clear hb hbox hg; have hcz35_0 : w34.cell? ⟨gb168, 0, none⟩ = some (.int .i64 0) := (blk_cell BK168.out 0).trans rfl; have hcz35_1 : w34.cell? ⟨gb168, 1, none⟩ = some (.int .i64 0) := (blk_cell BK168.out 1).trans rfl; have hcz35_2 : w34.cell? ⟨gb168, 2, none⟩ = some (.int .i64 0) := (blk_cell BK168.out 2).trans rfl; have hcz35_3 : w34.cell? ⟨gb168, 3, none⟩ = some (.int .i64 0) := (blk_cell BK168.out 3).trans rfl; have hcz35_4 : w34.cell? ⟨gb168, 4, none⟩ = some (.int .i64 0) := (blk_cell BK168.out 4).trans rfl; have hfz35_0 := blk_frozen BK168.out 0; have hfz35_1 := blk_frozen BK168.out 1; have hfz35_2 := blk_frozen BK168.out 2; have hfz35_3 := blk_frozen BK168.out 3; have hfz35_4 := blk_frozen BK168.out 4)))
              go_roundg k1
              case measure => have := HK1.out; omega
              case rel => exact ⟨(x7_1), (x8_1), (wrap64 (x13_1 + 1)), (by first | rfl | (simp; done) | (simp [*]; done)), (by first | rfl | (simp; done) | (simp [*]; done)), (by first | rfl | (simp; done) | (simp [*]; done)), H', ⟨by have := HK1.out; omega⟩, ⟨by repeat (first | (with_reducible first | exact HB.out | apply below_alloc | apply pw_below_drewN | apply below_drew1 | refine below_set ?_ GE168.out) | exact HB.out)⟩⟩
          · rw [if_neg c6] at H
            exact absurd H (by simp)
        · rw [if_neg c5] at H
          exact absurd H (by simp)
      · rw [if_neg c4] at H
        have c4b0 : decide (x13_1 < (l0.length : Int)) = false := decide_eq_false c4
        clear c4
        by_cases c36 : x7_1 < 0
        · rw [if_pos c36] at H
          have c36b0 : decide (x7_1 < 0) = true := decide_eq_true c36
          clear c36
          obtain rfl := Option.some.inj H
          go_wp2
          repeat (go_quiet (fail); try go_wp2)
          go_ret
          exact ⟨by first | rfl | (simp [errW_none, errW_some] <;> rfl) | (simp [*, errW_none, errW_some] <;> rfl), by repeat (first | (with_reducible first | exact HB.out | apply below_alloc | apply pw_below_drewN | apply below_drew1) | exact HB.out)⟩
        · rw [if_neg c36] at H
          have c36b0 : decide (x7_1 < 0) = false := decide_eq_false c36
          clear c36
          obtain rfl := Option.some.inj H
          go_wp2
          repeat (go_quiet (fail); try go_wp2)
          go_ret
          exact ⟨by first | rfl | (simp [errW_none, errW_some] <;> rfl) | (simp [*, errW_none, errW_some] <;> rfl), by repeat (first | (with_reducible first | exact HB.out | apply below_alloc | apply pw_below_drewN | apply below_drew1) | exact HB.out)⟩

/-! ### impl_TariffAt: function 21 -/
def impl_TariffAt.f (k : Nat) (l0 : List (S60)) (a1 : Int) (a2 : Int) : Option (Int × Bool) := (impl_TariffsOk.f l0).bind fun t172 => (if t172 = true then ((impl_in.f a2 0 1000000000).bind fun t173 => (if t173 = true then ((impl_tariffAt.f k l0 a1 a2).bind fun t174 => (some (t174, decide (t174 ≥ 0)))) else (some ((-1), false)))) else (some ((-1), false)))
theorem impl_TariffAt.mono : ∀ a0 a1 a2 k, LeO (impl_TariffAt.f k a0 a1 a2) (impl_TariffAt.f (k + 1) a0 a1 a2) := by
  intro a0 a1 a2 k
  unfold impl_TariffAt.f
  repeat' first
      | (with_reducible exact impl_tariffAt.mono _ _ _ _)
      | (with_reducible exact LeO.refl _)
      | (with_reducible exact LeO.none _)
      | (with_reducible refine LeO.ite ?_ ?_)
      | (with_reducible refine LeO.bind ?_ (fun _ => ?_))
      | exact impl_tariffAt.mono _ _ _ _
      | exact LeO.none _
      | refine LeO.ite ?_ ?_
      | refine LeO.bind ?_ (fun _ => ?_)
set_option maxHeartbeats 8000000 in
set_option maxRecDepth 100000 in
theorem impl_TariffAt.calls (k : Nat) (A0 : Option Addr) (c0 : Nat) (l0 : List (S60)) (a1 : Int) (a2 : Int) (r1 : Int) (r2 : Bool) (w : World) (hr0 : Kd.C k60 w A0 l0.length l0) (hc0 : l0.length ≤ c0) (h : impl_TariffAt.f k l0 a1 a2 = some (r1, r2)) :
    Calls Try.prog 21 #[.slice A0 l0.length c0, .int .i64 a1, .int .i64 a2] w fun e w' => e = .returned (.tuple #[.int .i64 r1, .bool r2]) ∧ Below w.heap.size w w' := by
  have HR0 := Aside0.mk hr0
  have HC0 := Aside0.mk hc0
  clear hr0 hc0
  have HB := Aside0.mk (Below.refl w.heap.size w)
  have H : ((impl_TariffsOk.f l0).bind fun t172 => (if t172 = true then ((impl_in.f a2 0 1000000000).bind fun t173 => (if t173 = true then ((impl_tariffAt.f k l0 a1 a2).bind fun t174 => (some (t174, decide (t174 ≥ 0)))) else (some ((-1), false)))) else (some ((-1), false)))) = some (r1, r2) := h
  clear h
  replace H := Option.bind_eq_some_iff.mp H
  obtain ⟨t172, A40, H⟩ := H
  replace H : (if t172 = true then ((impl_in.f a2 0 1000000000).bind fun t173 => (if t173 = true then ((impl_tariffAt.f k l0 a1 a2).bind fun t174 => (some (t174, decide (t174 ≥ 0)))) else (some ((-1), false)))) else (some ((-1), false))) = some (r1, r2) := H
  have A4 := Aside0.mk A40
  clear A40
  by_cases c5 : t172 = true
  · subst c5
    have H1 : ((impl_in.f a2 0 1000000000).bind fun t173 => (if t173 = true then ((impl_tariffAt.f k l0 a1 a2).bind fun t174 => (some (t174, decide (t174 ≥ 0)))) else (some ((-1), false)))) = some (r1, r2) := by rw [if_pos rfl] at H; exact H
    clear H
    have H := H1
    clear H1
    replace H := Option.bind_eq_some_iff.mp H
    obtain ⟨t173, A60, H⟩ := H
    replace H : (if t173 = true then ((impl_tariffAt.f k l0 a1 a2).bind fun t174 => (some (t174, decide (t174 ≥ 0)))) else (some ((-1), false))) = some (r1, r2) := H
    have A6 := Aside0.mk A60
    clear A60
    by_cases c7 : t173 = true
    · subst c7
      have H1 : ((impl_tariffAt.f k l0 a1 a2).bind fun t174 => (some (t174, decide (t174 ≥ 0)))) = some (r1, r2) := by rw [if_pos rfl] at H; exact H
      clear H
      have H := H1
      clear H1
      replace H := Option.bind_eq_some_iff.mp H
      obtain ⟨t174, A80, H⟩ := H
      replace H : (some (t174, decide (t174 ≥ 0))) = some (r1, r2) := H
      have A8 := Aside0.mk A80
      clear A80
      simp only [Option.some.injEq, Prod.mk.injEq] at H
      obtain ⟨rfl, rfl⟩ := H
      go_enter Try.func21, Try.ntmps21
      go_wp2_with (first | ((with_reducible refine gate_callee (f := 18) rfl ?_); refine goesL_ (some 10) rfl rfl Try.func18 (by kernel_rfl) rfl #[.slice A0 l0.length c0] rfl (by (try simp only [List.map_toArray, List.map_cons, List.map_nil]); first | done | rfl | (simp only [List.length_drop, List.length_take]; rfl)) ?_; (with_reducible refine (impl_TariffsOk.calls _ _ l0 true _ ?side1 ?side2 A4.out).mono ?_); (case side1 => repeat (first | exact HR0.out | (with_reducible refine Kd.C_alloc ?_ _) | (with_reducible refine Kd.C_drewN ?_ _) | (with_reducible refine Kd.C_drew ?_))); (case side2 => exact HC0.out); rintro e w9 ⟨rfl, hb⟩; refine ⟨_, rfl, ?_⟩; have n0_ := Aside0.mk (below_step (by repeat (first | (with_reducible first | exact HB.out | apply below_alloc | apply pw_below_drewN | apply below_drew1) | exact HB.out)) hb); clear HB; have HB := n0_; clear n0_; (try clear hb); (try clear hb2); (try clear hk); (try clear hi)) | (go_at_call 38; (with_reducible refine (impl_in.calls a2 0 1000000000 true _ A6.out).mono ?_); rintro e w' ⟨rfl, ⟨nd, rfl⟩⟩) | ((with_reducible refine gate_callee (f := 42) rfl ?_); refine goesL_ (some 20) rfl rfl Try.func42 (by kernel_rfl) rfl #[.slice A0 l0.length c0, .int .i64 a1, .int .i64 a2] rfl (by (try simp only [List.map_toArray, List.map_cons, List.map_nil]); first | done | rfl | (simp only [List.length_drop, List.length_take]; rfl)) ?_; (with_reducible refine (impl_tariffAt.calls k _ _ l0 a1 a2 t174 _ ?side1 ?side2 A8.out).mono ?_); (case side1 => repeat (first | exact (Kd.C_below HR0.out (by repeat (first | (with_reducible first | exact HB.out | apply below_alloc | apply pw_below_drewN | apply below_drew1) | exact HB.out))) | (with_reducible refine Kd.C_alloc ?_ _) | (with_reducible refine Kd.C_drewN ?_ _) | (with_reducible refine Kd.C_drew ?_))); (case side2 => exact HC0.out); rintro e w10 ⟨rfl, hb⟩; refine ⟨_, rfl, ?_⟩; have n0_ := Aside0.mk (below_step (by repeat (first | (with_reducible first | exact HB.out | apply below_alloc | apply pw_below_drewN | apply below_drew1) | exact HB.out)) hb); clear HB; have HB := n0_; clear n0_; (try clear hb); (try clear hb2); (try clear hk); (try clear hi)))
      go_ret2
      exact ⟨by first | rfl | (simp [errW_none, errW_some] <;> rfl) | (simp [*, errW_none, errW_some] <;> rfl), by repeat (first | (with_reducible first | exact HB.out | apply below_alloc | apply pw_below_drewN | apply below_drew1) | exact HB.out)⟩
    · replace c7 := Bool.eq_false_iff.mpr c7
      subst c7
      have H1 : (some ((-1), false)) = some (r1, r2) := by rw [if_neg (show ¬ (false = true) by decide)] at H; exact H
      clear H
      have H := H1
      clear H1
      simp only [Option.some.injEq, Prod.mk.injEq] at H
      obtain ⟨rfl, rfl⟩ := H
      go_enter Try.func21, Try.ntmps21
      go_wp2_with (first | ((with_reducible refine gate_callee (f := 18) rfl ?_); refine goesL_ (some 10) rfl rfl Try.func18 (by kernel_rfl) rfl #[.slice A0 l0.length c0] rfl (by (try simp only [List.map_toArray, List.map_cons, List.map_nil]); first | done | rfl | (simp only [List.length_drop, List.length_take]; rfl)) ?_; (with_reducible refine (impl_TariffsOk.calls _ _ l0 true _ ?side1 ?side2 A4.out).mono ?_); (case side1 => repeat (first | exact HR0.out | (with_reducible refine Kd.C_alloc ?_ _) | (with_reducible refine Kd.C_drewN ?_ _) | (with_reducible refine Kd.C_drew ?_))); (case side2 => exact HC0.out); rintro e w11 ⟨rfl, hb⟩; refine ⟨_, rfl, ?_⟩; have n0_ := Aside0.mk (below_step (by repeat (first | (with_reducible first | exact HB.out | apply below_alloc | apply pw_below_drewN | apply below_drew1) | exact HB.out)) hb); clear HB; have HB := n0_; clear n0_; (try clear hb); (try clear hb2); (try clear hk); (try clear hi)) | (go_at_call 38; (with_reducible refine (impl_in.calls a2 0 1000000000 false _ A6.out).mono ?_); rintro e w' ⟨rfl, ⟨nd, rfl⟩⟩))
      go_ret2
      exact ⟨by first | rfl | (simp [errW_none, errW_some] <;> rfl) | (simp [*, errW_none, errW_some] <;> rfl), by repeat (first | (with_reducible first | exact HB.out | apply below_alloc | apply pw_below_drewN | apply below_drew1) | exact HB.out)⟩
  · replace c5 := Bool.eq_false_iff.mpr c5
    subst c5
    have H1 : (some ((-1), false)) = some (r1, r2) := by rw [if_neg (show ¬ (false = true) by decide)] at H; exact H
    clear H
    have H := H1
    clear H1
    simp only [Option.some.injEq, Prod.mk.injEq] at H
    obtain ⟨rfl, rfl⟩ := H
    go_enter Try.func21, Try.ntmps21
    go_wp2_with (first | ((with_reducible refine gate_callee (f := 18) rfl ?_); refine goesL_ (some 10) rfl rfl Try.func18 (by kernel_rfl) rfl #[.slice A0 l0.length c0] rfl (by (try simp only [List.map_toArray, List.map_cons, List.map_nil]); first | done | rfl | (simp only [List.length_drop, List.length_take]; rfl)) ?_; (with_reducible refine (impl_TariffsOk.calls _ _ l0 false _ ?side1 ?side2 A4.out).mono ?_); (case side1 => repeat (first | exact HR0.out | (with_reducible refine Kd.C_alloc ?_ _) | (with_reducible refine Kd.C_drewN ?_ _) | (with_reducible refine Kd.C_drew ?_))); (case side2 => exact HC0.out); rintro e w12 ⟨rfl, hb⟩; refine ⟨_, rfl, ?_⟩; have n0_ := Aside0.mk (below_step (by repeat (first | (with_reducible first | exact HB.out | apply below_alloc | apply pw_below_drewN | apply below_drew1) | exact HB.out)) hb); clear HB; have HB := n0_; clear n0_; (try clear hb); (try clear hb2); (try clear hk); (try clear hi)))
    go_ret2
    exact ⟨by first | rfl | (simp [errW_none, errW_some] <;> rfl) | (simp [*, errW_none, errW_some] <;> rfl), by repeat (first | (with_reducible first | exact HB.out | apply below_alloc | apply pw_below_drewN | apply below_drew1) | exact HB.out)⟩

end Go.Proofs.Ytodehmbgcncnhaa.PFnExactRateParts
