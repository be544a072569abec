-- laid by a program of this session (wip/lay/lay.py); Lean checks it
import Derived.Test.YtllgjohkkahfgaaPFnTurns8x6a
import Derived.Test.YtllgjohkkahfgaaVFnTurns8Short
import Derived.Test.YtllgjohkkahfgaaPFnTurns8x0
import Derived.Test.YtllgjohkkahfgaaPFnTurns8x1
import Derived.Test.YtllgjohkkahfgaaPFnTurns8x2
import Derived.Test.YtllgjohkkahfgaaPFnTurns8x4
import Derived.Test.YtllgjohkkahfgaaPFnTurns8x5
namespace Go.Proofs.Ytllgjohkkahfgaa.PFnTurns8
-- squashed
open Go.RowKit Go.Proofs.YtllgjohkkahfgaaW.PrintWords Go.Proofs.YtllgjohkkahfgaaW.PrintLast Go.Proofs.YtllgjohkkahfgaaW.PrintMore Go.Proofs.Ytllgjohkkahfgaa.Short
attribute [local go_sem] max2_int min2_int max_two min_two max_three min_three max_four min_four   -- for this text's walks alone
set_option linter.unusedVariables false
set_option linter.unusedSimpArgs false

theorem cz_ {w : World} {g : Nat} {t : TypeId} {cs : Array Value} {v : Value} (h : w.heap[g]? = some (.cells cs t (0, 0))) (i : Nat) (e : cs[i]? = some v) : w.cell? ⟨g, i, none⟩ = some v := (blk_cell h i).trans e
/-! ### impl_DoDesk: function 18 -/
mutual
def impl_DoDesk.j0 : Nat → Bool → Int → List (S41) → List (S70) → Int → Int → Int → Int → Int → Int → Int → List (S41) → List (S70) → Int → Option (Int × (List (S41)) × (List (S70)) × Int × List Int × Int)
 | 0, _, _, _, _, _, _, _, _, _, _, _, _, _, _ => none
 | k + 1, x9, x162000, x162001, x162002, x162003, x163000, x163001, x163002, x163003, x163004, x173000, x173001, x173002, x173003 => (impl_DoDesk_2.f x162002 x163000 x163001 x163002 x163003 x163004).bind fun t184 => (if x163000 = 1 then (if x9 = true then ((impl_in.f x163002 0 1000000000).bind fun t185 => (if t185 = true then ((impl_skillOk.f x163003).bind fun t186 => (if t186 = true then ((impl_in.f x163004 0 9).bind fun t187 => (if t187 = true then (if t184 < 0 then ((impl_DoDesk_3.f x162001 x163000 x163001 x163002 x163003 x163004).bind fun t188 => (impl_DoDesk.j1 k (!t188) t184 x162000 x162001 x162002 x162003 x163000 x163001 x163002 x163003 x163004 x173000 x173001 x173002 x173003)) else (impl_DoDesk.j1 k false t184 x162000 x162001 x162002 x162003 x163000 x163001 x163002 x163003 x163004 x173000 x173001 x173002 x173003)) else (impl_DoDesk.j1 k false t184 x162000 x162001 x162002 x162003 x163000 x163001 x163002 x163003 x163004 x173000 x173001 x173002 x173003))) else (impl_DoDesk.j1 k false t184 x162000 x162001 x162002 x162003 x163000 x163001 x163002 x163003 x163004 x173000 x173001 x173002 x173003))) else (impl_DoDesk.j1 k false t184 x162000 x162001 x162002 x162003 x163000 x163001 x163002 x163003 x163004 x173000 x173001 x173002 x173003))) else (impl_DoDesk.j1 k false t184 x162000 x162001 x162002 x162003 x163000 x163001 x163002 x163003 x163004 x173000 x173001 x173002 x173003)) else (if x163000 = 4 then (if x9 = true then ((impl_in.f x163003 0 255).bind fun t189 => (if t189 = true then (impl_DoDesk.j1 k (x163004 == 0) t184 x162000 x162001 x162002 x162003 x163000 x163001 x163002 x163003 x163004 x173000 x173001 x173002 x173003) else (impl_DoDesk.j1 k false t184 x162000 x162001 x162002 x162003 x163000 x163001 x163002 x163003 x163004 x173000 x173001 x173002 x173003))) else (impl_DoDesk.j1 k false t184 x162000 x162001 x162002 x162003 x163000 x163001 x163002 x163003 x163004 x173000 x173001 x173002 x173003)) else (if x9 = true then (if x163003 = 0 then (impl_DoDesk.j1 k (x163004 == 0) t184 x162000 x162001 x162002 x162003 x163000 x163001 x163002 x163003 x163004 x173000 x173001 x173002 x173003) else (impl_DoDesk.j1 k false t184 x162000 x162001 x162002 x162003 x163000 x163001 x163002 x163003 x163004 x173000 x173001 x173002 x173003)) else (impl_DoDesk.j1 k false t184 x162000 x162001 x162002 x162003 x163000 x163001 x163002 x163003 x163004 x173000 x173001 x173002 x173003))))
def impl_DoDesk.j1 : Nat → Bool → Int → Int → List (S41) → List (S70) → Int → Int → Int → Int → Int → Int → Int → List (S41) → List (S70) → Int → Option (Int × (List (S41)) × (List (S70)) × Int × List Int × Int)
 | 0, _, _, _, _, _, _, _, _, _, _, _, _, _, _, _ => none
 | k + 1, x9, x10, x162000, x162001, x162002, x162003, x163000, x163001, x163002, x163003, x163004, x173000, x173001, x173002, x173003 => if x9 = true then (if x163000 = 1 then (if x162002.length < 4398046511104 then (impl_DoDesk.j2 k x163001 x162001 (x162002 ++ [(⟨x163002, x163003, x163004, x163001⟩ : S70)]) x162003 x173000 x173001 x173002 x173003) else (none)) else (if x163000 = 2 then (if x10 < 0 then (some (x173000, x173001, x173002, x173003, ([] : List Int), 3)) else (if 0 ≤ x10 then (if x10 ≤ (x162002.length : Int) then (if 0 ≤ (wrap64 (x10 + 1)) then (if (wrap64 (x10 + 1)) ≤ (x162002.length : Int) then (impl_DoDesk.j2 k x163001 x162001 (x162002.eraseIdx (x10 : Int).toNat) x162003 x173000 x173001 x173002 x173003) else (none)) else (none)) else (none)) else (none))) else ((impl_in.f x163002 0 (wrap64 ((x162001.length : Int) - 1))).bind fun t204 => (if t204 = true then (if 0 ≤ x163002 then (if x163002 < (x162001.length : Int) then (if x163000 = 4 then (impl_DoDesk.j2 k x163001 (x162001.set (x163002 : Int).toNat (⟨x163003, (rd_T41 x162001 x163002).f1, (rd_T41 x162001 x163002).f2⟩ : S41)) x162002 x162003 x173000 x173001 x173002 x173003) else (if ((rd_T41 x162001 x163002).f1) < 0 then (some (x173000, x173001, x173002, x173003, ([] : List Int), 3)) else ((some (x162001.set (x163002 : Int).toNat (⟨(rd_T41 x162001 x163002).f0, (-1), (rd_T41 x162001 x163002).f2⟩ : S41) : List (S41))).bind fun y206 => (impl_DoDesk.j2 k x163001 (y206.set (x163002 : Int).toNat (⟨(rd_T41 y206 x163002).f0, (rd_T41 y206 x163002).f1, x163001⟩ : S41)) x162002 x162003 x173000 x173001 x173002 x173003)))) else (none)) else (none)) else (some (x173000, x173001, x173002, x173003, ([] : List Int), 3)))))) else (some (x173000, x173001, x173002, x173003, ([] : List Int), 1))
def impl_DoDesk.j2 : Nat → Int → List (S41) → List (S70) → Int → Int → List (S41) → List (S70) → Int → Option (Int × (List (S41)) × (List (S70)) × Int × List Int × Int)
 | 0, _, _, _, _, _, _, _, _ => none
 | k + 1, x162000, x162001, x162002, x162003, x173000, x173001, x173002, x173003 => impl_DoDesk.l0 k ([] : List Int) x162000 x162001 x162002 x162003 x173000 x173001 x173002 x173003
def impl_DoDesk.l0 : Nat → List Int → Int → List (S41) → List (S70) → Int → Int → List (S41) → List (S70) → Int → Option (Int × (List (S41)) × (List (S70)) × Int × List Int × Int)
 | 0, _, _, _, _, _, _, _, _, _ => none
 | k + 1, x12, x162000, x162001, x162002, x162003, x173000, x173001, x173002, x173003 => (impl_Desk_next.f k x162000 x162001 x162002 x162003).bind fun bt208 => (if bt208.2.2 = true then (if 0 ≤ bt208.1 then (if bt208.1 < (x162002.length : Int) then (if 0 ≤ bt208.2.1 then (if bt208.2.1 < (x162001.length : Int) then ((some (x162001.set (bt208.2.1 : Int).toNat (⟨(rd_T41 x162001 bt208.2.1).f0, (rd_T70 x162002 bt208.1).f0, (rd_T41 x162001 bt208.2.1).f2⟩ : S41) : List (S41))).bind fun y212 => (if x12.length < 17592186044416 then (if bt208.1 ≤ (x162002.length : Int) then (if 0 ≤ (wrap64 (bt208.1 + 1)) then (if (wrap64 (bt208.1 + 1)) ≤ (x162002.length : Int) then (impl_DoDesk.l0 k (x12 ++ [(rd_T70 x162002 bt208.1).f0]) x162000 (y212.set (bt208.2.1 : Int).toNat (⟨(rd_T41 y212 bt208.2.1).f0, (rd_T41 y212 bt208.2.1).f1, x162000⟩ : S41)) (x162002.eraseIdx (bt208.1 : Int).toNat) (wrap64 (x162003 + 1)) x173000 x173001 x173002 x173003) else (none)) else (none)) else (none)) else (none))) else (none)) else (none)) else (none)) else (none)) else (if (x162002.length : Int) > 40 then (some (x173000, x173001, x173002, x173003, ([] : List Int), 2)) else (if x162003 > 1000000 then (some (x173000, x173001, x173002, x173003, ([] : List Int), 2)) else (some (x162000, x162001, x162002, x162003, x12, 0)))))
end
def impl_DoDesk.f (k : Nat) (a0_0 : Int) (l0_1 : List (S41)) (l0_2 : List (S70)) (a0_3 : Int) (a1_0 : Int) (a1_1 : Int) (a1_2 : Int) (a1_3 : Int) (a1_4 : Int) : Option (Int × (List (S41)) × (List (S70)) × Int × List Int × Int) := (impl_ownDesk.f a0_0 l0_1 l0_2 a0_3).bind fun bt164 => ((impl_ownDesk.f a0_0 l0_1 l0_2 a0_3).bind fun bt173 => ((impl_DeskOk.f k bt173.1 bt173.2.1 bt173.2.2.1 bt173.2.2.2).bind fun t181 => (if t181 = true then ((impl_in.f a1_1 bt173.1 1000000000).bind fun t182 => (if t182 = true then ((impl_in.f a1_0 1 4).bind fun t183 => (impl_DoDesk.j0 k t183 bt173.1 bt173.2.1 bt173.2.2.1 bt173.2.2.2 a1_0 a1_1 a1_2 a1_3 a1_4 bt164.1 bt164.2.1 bt164.2.2.1 bt164.2.2.2)) else (impl_DoDesk.j0 k false bt173.1 bt173.2.1 bt173.2.2.1 bt173.2.2.2 a1_0 a1_1 a1_2 a1_3 a1_4 bt164.1 bt164.2.1 bt164.2.2.1 bt164.2.2.2))) else (impl_DoDesk.j0 k false bt173.1 bt173.2.1 bt173.2.2.1 bt173.2.2.2 a1_0 a1_1 a1_2 a1_3 a1_4 bt164.1 bt164.2.1 bt164.2.2.1 bt164.2.2.2))))
theorem impl_DoDesk.mono_l : ∀ k, (∀ y0 y1 y2 y3 y4 y5 y6 y7 y8 y9 y10 y11 y12 y13, LeO (impl_DoDesk.j0 k y0 y1 y2 y3 y4 y5 y6 y7 y8 y9 y10 y11 y12 y13) (impl_DoDesk.j0 (k + 1) y0 y1 y2 y3 y4 y5 y6 y7 y8 y9 y10 y11 y12 y13)) ∧ (∀ y0 y1 y2 y3 y4 y5 y6 y7 y8 y9 y10 y11 y12 y13 y14, LeO (impl_DoDesk.j1 k y0 y1 y2 y3 y4 y5 y6 y7 y8 y9 y10 y11 y12 y13 y14) (impl_DoDesk.j1 (k + 1) y0 y1 y2 y3 y4 y5 y6 y7 y8 y9 y10 y11 y12 y13 y14)) ∧ (∀ y0 y1 y2 y3 y4 y5 y6 y7, LeO (impl_DoDesk.j2 k y0 y1 y2 y3 y4 y5 y6 y7) (impl_DoDesk.j2 (k + 1) y0 y1 y2 y3 y4 y5 y6 y7)) ∧ (∀ y0 y1 y2 y3 y4 y5 y6 y7 y8, LeO (impl_DoDesk.l0 k y0 y1 y2 y3 y4 y5 y6 y7 y8) (impl_DoDesk.l0 (k + 1) y0 y1 y2 y3 y4 y5 y6 y7 y8))
 | 0 => ⟨fun _ _ _ _ _ _ _ _ _ _ _ _ _ _ r h => by simp [impl_DoDesk.j0] at h, fun _ _ _ _ _ _ _ _ _ _ _ _ _ _ _ r h => by simp [impl_DoDesk.j1] at h, fun _ _ _ _ _ _ _ _ r h => by simp [impl_DoDesk.j2] at h, fun _ _ _ _ _ _ _ _ _ r h => by simp [impl_DoDesk.l0] at h⟩
 | k + 1 => by
  obtain ⟨ih0, ih1, ih2, ih3⟩ := impl_DoDesk.mono_l k
  refine ⟨?_, ?_, ?_, ?_⟩
  ·intro y0 y1 y2 y3 y4 y5 y6 y7 y8 y9 y10 y11 y12 y13
   unfold impl_DoDesk.j0
   repeat' first
   | (with_reducible exact ih0 _ _ _ _ _ _ _ _ _ _ _ _ _ _)
   | (with_reducible exact ih1 _ _ _ _ _ _ _ _ _ _ _ _ _ _ _)
   | (with_reducible exact ih2 _ _ _ _ _ _ _ _)
   | (with_reducible exact ih3 _ _ _ _ _ _ _ _ _)
   | (with_reducible exact impl_DeskOk.mono _ _ _ _ _)
   | (with_reducible exact impl_Desk_next.mono _ _ _ _ _)
   | (with_reducible exact LeO.refl _)
   | (with_reducible exact LeO.none _)
   | (with_reducible refine LeO.ite ?_ ?_)
   | (with_reducible refine LeO.bind ?_ (fun _ => ?_))
   | exact ih0 _ _ _ _ _ _ _ _ _ _ _ _ _ _
   | exact ih1 _ _ _ _ _ _ _ _ _ _ _ _ _ _ _
   | exact ih2 _ _ _ _ _ _ _ _
   | exact ih3 _ _ _ _ _ _ _ _ _
   | exact impl_DeskOk.mono _ _ _ _ _
   | exact impl_Desk_next.mono _ _ _ _ _
   | exact LeO.none _
   | refine LeO.ite ?_ ?_
   | refine LeO.bind ?_ (fun _ => ?_)
  ·intro y0 y1 y2 y3 y4 y5 y6 y7 y8 y9 y10 y11 y12 y13 y14
   unfold impl_DoDesk.j1
   repeat' first
   | (with_reducible exact ih0 _ _ _ _ _ _ _ _ _ _ _ _ _ _)
   | (with_reducible exact ih1 _ _ _ _ _ _ _ _ _ _ _ _ _ _ _)
   | (with_reducible exact ih2 _ _ _ _ _ _ _ _)
   | (with_reducible exact ih3 _ _ _ _ _ _ _ _ _)
   | (with_reducible exact impl_DeskOk.mono _ _ _ _ _)
   | (with_reducible exact impl_Desk_next.mono _ _ _ _ _)
   | (with_reducible exact LeO.refl _)
   | (with_reducible exact LeO.none _)
   | (with_reducible refine LeO.ite ?_ ?_)
   | (with_reducible refine LeO.bind ?_ (fun _ => ?_))
   | exact ih0 _ _ _ _ _ _ _ _ _ _ _ _ _ _
   | exact ih1 _ _ _ _ _ _ _ _ _ _ _ _ _ _ _
   | exact ih2 _ _ _ _ _ _ _ _
   | exact ih3 _ _ _ _ _ _ _ _ _
   | exact impl_DeskOk.mono _ _ _ _ _
   | exact impl_Desk_next.mono _ _ _ _ _
   | exact LeO.none _
   | refine LeO.ite ?_ ?_
   | refine LeO.bind ?_ (fun _ => ?_)
  ·intro y0 y1 y2 y3 y4 y5 y6 y7
   unfold impl_DoDesk.j2
   repeat' first
   | (with_reducible exact ih0 _ _ _ _ _ _ _ _ _ _ _ _ _ _)
   | (with_reducible exact ih1 _ _ _ _ _ _ _ _ _ _ _ _ _ _ _)
   | (with_reducible exact ih2 _ _ _ _ _ _ _ _)
   | (with_reducible exact ih3 _ _ _ _ _ _ _ _ _)
   | (with_reducible exact impl_DeskOk.mono _ _ _ _ _)
   | (with_reducible exact impl_Desk_next.mono _ _ _ _ _)
   | (with_reducible exact LeO.refl _)
   | (with_reducible exact LeO.none _)
   | (with_reducible refine LeO.ite ?_ ?_)
   | (with_reducible refine LeO.bind ?_ (fun _ => ?_))
   | exact ih0 _ _ _ _ _ _ _ _ _ _ _ _ _ _
   | exact ih1 _ _ _ _ _ _ _ _ _ _ _ _ _ _ _
   | exact ih2 _ _ _ _ _ _ _ _
   | exact ih3 _ _ _ _ _ _ _ _ _
   | exact impl_DeskOk.mono _ _ _ _ _
   | exact impl_Desk_next.mono _ _ _ _ _
   | exact LeO.none _
   | refine LeO.ite ?_ ?_
   | refine LeO.bind ?_ (fun _ => ?_)
  ·intro y0 y1 y2 y3 y4 y5 y6 y7 y8
   unfold impl_DoDesk.l0
   repeat' first
   | (with_reducible exact ih0 _ _ _ _ _ _ _ _ _ _ _ _ _ _)
   | (with_reducible exact ih1 _ _ _ _ _ _ _ _ _ _ _ _ _ _ _)
   | (with_reducible exact ih2 _ _ _ _ _ _ _ _)
   | (with_reducible exact ih3 _ _ _ _ _ _ _ _ _)
   | (with_reducible exact impl_DeskOk.mono _ _ _ _ _)
   | (with_reducible exact impl_Desk_next.mono _ _ _ _ _)
   | (with_reducible exact LeO.refl _)
   | (with_reducible exact LeO.none _)
   | (with_reducible refine LeO.ite ?_ ?_)
   | (with_reducible refine LeO.bind ?_ (fun _ => ?_))
   | exact ih0 _ _ _ _ _ _ _ _ _ _ _ _ _ _
   | exact ih1 _ _ _ _ _ _ _ _ _ _ _ _ _ _ _
   | exact ih2 _ _ _ _ _ _ _ _
   | exact ih3 _ _ _ _ _ _ _ _ _
   | exact impl_DeskOk.mono _ _ _ _ _
   | exact impl_Desk_next.mono _ _ _ _ _
   | exact LeO.none _
   | refine LeO.ite ?_ ?_
   | refine LeO.bind ?_ (fun _ => ?_)
theorem impl_DoDesk.mono : ∀ a0 a1 a2 a3 a4 a5 a6 a7 a8 k, LeO (impl_DoDesk.f k a0 a1 a2 a3 a4 a5 a6 a7 a8) (impl_DoDesk.f (k + 1) a0 a1 a2 a3 a4 a5 a6 a7 a8) := by
 intro a0 a1 a2 a3 a4 a5 a6 a7 a8 k
 obtain ⟨ih0, ih1, ih2, ih3⟩ := impl_DoDesk.mono_l k
 unfold impl_DoDesk.f
 repeat' first
   | (with_reducible exact ih0 _ _ _ _ _ _ _ _ _ _ _ _ _ _)
   | (with_reducible exact ih1 _ _ _ _ _ _ _ _ _ _ _ _ _ _ _)
   | (with_reducible exact ih2 _ _ _ _ _ _ _ _)
   | (with_reducible exact ih3 _ _ _ _ _ _ _ _ _)
   | (with_reducible exact impl_DeskOk.mono _ _ _ _ _)
   | (with_reducible exact impl_Desk_next.mono _ _ _ _ _)
   | (with_reducible exact LeO.refl _)
   | (with_reducible exact LeO.none _)
   | (with_reducible refine LeO.ite ?_ ?_)
   | (with_reducible refine LeO.bind ?_ (fun _ => ?_))
   | exact ih0 _ _ _ _ _ _ _ _ _ _ _ _ _ _
   | exact ih1 _ _ _ _ _ _ _ _ _ _ _ _ _ _ _
   | exact ih2 _ _ _ _ _ _ _ _
   | exact ih3 _ _ _ _ _ _ _ _ _
   | exact impl_DeskOk.mono _ _ _ _ _
   | exact impl_Desk_next.mono _ _ _ _ _
   | exact LeO.none _
   | refine LeO.ite ?_ ?_
   | refine LeO.bind ?_ (fun _ => ?_)
def impl_DoDesk.T23 : Bool × List (List Nat × List Nat) := (true, [([], []), ([], []), ([], []), ([2], [2]), ([0, 0], [0]), ([4, 0], [4]), ([5, 0], [5]), ([1, 0, 1, 2, 3, 4, 5, 6], [1]), ([7, 0, 1, 2, 3, 4, 5, 6], [7]), ([8, 3, 6, 0, 1, 2, 3, 4, 5, 6], [3, 8])])
def impl_DoDesk.B23 : List Nat := [0, 0, 0, 4, 1, 17, 49, 127, 255, 511]
theorem impl_DoDesk.tab23 : rtab .any (opsOf Try.f18 23) = impl_DoDesk.T23 := by kernel_rfl
theorem impl_DoDesk.bits23 : waitsOk impl_DoDesk.T23.2 impl_DoDesk.B23 = true := by kernel_rfl
def impl_DoDesk.T33 : Bool × List (List Nat × List Nat) := (true, [([], []), ([0], [0]), ([], []), ([], []), ([3], [3]), ([], []), ([], []), ([6], [6]), ([], []), ([7, 8], [7, 8]), ([9], [9]), ([10], [10]), ([], []), ([12], [12]), ([1, 2, 0, 1, 2, 6, 7, 8, 9, 10, 11], [1, 2]), ([14, 0, 1, 2, 6, 7, 8, 9, 10, 11], [14]), ([15, 11, 0, 1, 2, 6, 7, 8, 9, 10, 11], [11, 15]), ([4, 5, 0, 1, 2, 3, 4, 5, 6, 7, 8, 9, 10, 11, 12, 13, 14, 15, 16], [4, 5]), ([17, 0, 1, 2, 3, 4, 5, 6, 7, 8, 9, 10, 11, 12, 13, 14, 15, 16], [17]), ([18, 13, 16, 0, 1, 2, 3, 4, 5, 6, 7, 8, 9, 10, 11, 12, 13, 14, 15, 16], [13, 18])])
def impl_DoDesk.B33 : List Nat := [0, 1, 0, 0, 8, 0, 0, 64, 0, 448, 960, 1984, 0, 4096, 4039, 20423, 53191, 131071, 262143, 524287]
theorem impl_DoDesk.tab33 : rtab .any (opsOf Try.f18 33) = impl_DoDesk.T33 := by kernel_rfl
theorem impl_DoDesk.bits33 : waitsOk impl_DoDesk.T33.2 impl_DoDesk.B33 = true := by kernel_rfl
set_option maxHeartbeats 8000000 in
set_option maxRecDepth 100000 in
theorem impl_DoDesk.calls (k : Nat) (a0_0 : Int) (A0_1 : Option Addr) (c0_1 : Nat) (l0_1 : List (S41)) (A0_2 : Option Addr) (c0_2 : Nat) (l0_2 : List (S70)) (a0_3 : Int) (a1_0 : Int) (a1_1 : Int) (a1_2 : Int) (a1_3 : Int) (a1_4 : Int) (r1 : Int) (r2 : List (S41)) (r3 : List (S70)) (r4 : Int) (r5 : List Int) (r6 : Int) (w : World) (hr0_1 : Kd.C k41 w A0_1 l0_1.length l0_1) (hc0_1 : l0_1.length ≤ c0_1) (hr0_2 : Kd.C k70 w A0_2 l0_2.length l0_2) (hc0_2 : l0_2.length ≤ c0_2) (h : impl_DoDesk.f k a0_0 l0_1 l0_2 a0_3 a1_0 a1_1 a1_2 a1_3 a1_4 = some (r1, r2, r3, r4, r5, r6)) :
  Calls Try.prog 18 #[.agg #[.int .i64 a0_0, .slice A0_1 l0_1.length c0_1, .slice A0_2 l0_2.length c0_2, .int .i64 a0_3], .agg #[.int .i64 a1_0, .int .i64 a1_1, .int .i64 a1_2, .int .i64 a1_3, .int .i64 a1_4]] w fun e w' => ∃ v1_ v2_ v4_ : Value, e = .returned (.tuple #[.agg #[.int .i64 r1, v1_, v2_, .int .i64 r4], v4_, .int .i64 r6]) ∧ Kd.R k41 41 w' w.heap.size (fun _ => True) v1_ r2 ∧ Kd.R k70 70 w' w.heap.size (fun _ => True) v2_ r3 ∧ Kd.R (Kd.int .i64) 3 w' w.heap.size (fun _ => True) v4_ r5 ∧ Below w.heap.size w w' := by
 have hu31 := Try.underlying31
 have hu47 := Try.underlying47
 have hu70 := Try.underlying70
 have HR0_1 := Aside0.mk hr0_1
 have HC0_1 := Aside0.mk hc0_1
 clear hr0_1 hc0_1
 have HR0_2 := Aside0.mk hr0_2
 have HC0_2 := Aside0.mk hc0_2
 clear hr0_2 hc0_2
 have HB := Aside0.mk (Below.refl w.heap.size w)
 have H : ((impl_ownDesk.f a0_0 l0_1 l0_2 a0_3).bind fun bt164 => ((impl_ownDesk.f a0_0 l0_1 l0_2 a0_3).bind fun bt173 => ((impl_DeskOk.f k bt173.1 bt173.2.1 bt173.2.2.1 bt173.2.2.2).bind fun t181 => (if t181 = true then ((impl_in.f a1_1 bt173.1 1000000000).bind fun t182 => (if t182 = true then ((impl_in.f a1_0 1 4).bind fun t183 => (impl_DoDesk.j0 k t183 bt173.1 bt173.2.1 bt173.2.2.1 bt173.2.2.2 a1_0 a1_1 a1_2 a1_3 a1_4 bt164.1 bt164.2.1 bt164.2.2.1 bt164.2.2.2)) else (impl_DoDesk.j0 k false bt173.1 bt173.2.1 bt173.2.2.1 bt173.2.2.2 a1_0 a1_1 a1_2 a1_3 a1_4 bt164.1 bt164.2.1 bt164.2.2.1 bt164.2.2.2))) else (impl_DoDesk.j0 k false bt173.1 bt173.2.1 bt173.2.2.1 bt173.2.2.2 a1_0 a1_1 a1_2 a1_3 a1_4 bt164.1 bt164.2.1 bt164.2.2.1 bt164.2.2.2))))) = some (r1, r2, r3, r4, r5, r6) := h
 clear h
 replace H := Option.bind_eq_some_iff.mp H
 obtain ⟨⟨t164, t165, t168, t171⟩, A30, H⟩ := H
 replace H : ((impl_ownDesk.f a0_0 l0_1 l0_2 a0_3).bind fun bt173 => ((impl_DeskOk.f k bt173.1 bt173.2.1 bt173.2.2.1 bt173.2.2.2).bind fun t181 => (if t181 = true then ((impl_in.f a1_1 bt173.1 1000000000).bind fun t182 => (if t182 = true then ((impl_in.f a1_0 1 4).bind fun t183 => (impl_DoDesk.j0 k t183 bt173.1 bt173.2.1 bt173.2.2.1 bt173.2.2.2 a1_0 a1_1 a1_2 a1_3 a1_4 t164 t165 t168 t171)) else (impl_DoDesk.j0 k false bt173.1 bt173.2.1 bt173.2.2.1 bt173.2.2.2 a1_0 a1_1 a1_2 a1_3 a1_4 t164 t165 t168 t171))) else (impl_DoDesk.j0 k false bt173.1 bt173.2.1 bt173.2.2.1 bt173.2.2.2 a1_0 a1_1 a1_2 a1_3 a1_4 t164 t165 t168 t171)))) = some (r1, r2, r3, r4, r5, r6) := H
 have A3 := Aside0.mk A30
 clear A30
 replace H := Option.bind_eq_some_iff.mp H
 obtain ⟨⟨t173, t174, t177, t180⟩, A40, H⟩ := H
 replace H : ((impl_DeskOk.f k t173 t174 t177 t180).bind fun t181 => (if t181 = true then ((impl_in.f a1_1 t173 1000000000).bind fun t182 => (if t182 = true then ((impl_in.f a1_0 1 4).bind fun t183 => (impl_DoDesk.j0 k t183 t173 t174 t177 t180 a1_0 a1_1 a1_2 a1_3 a1_4 t164 t165 t168 t171)) else (impl_DoDesk.j0 k false t173 t174 t177 t180 a1_0 a1_1 a1_2 a1_3 a1_4 t164 t165 t168 t171))) else (impl_DoDesk.j0 k false t173 t174 t177 t180 a1_0 a1_1 a1_2 a1_3 a1_4 t164 t165 t168 t171))) = some (r1, r2, r3, r4, r5, r6) := H
 have A4 := Aside0.mk A40
 clear A40
 have HC5 := Aside0.mk H
 clear H
 go_enter Try.func18, Try.ntmps18
 go_upto_region 4 with (first | ((with_reducible refine gate_dst (N := 2) rfl ?_); refine box_event ?hg (N := 2) ?hd (cs := #[.int .i64 a0_0, .slice A0_1 l0_1.length c0_1, .slice A0_2 l0_2.length c0_2, .int .i64 a0_3]) (t := 31) ?hr ?_; (case hd => rfl); (case hg => rfl); (case hr => first | (go_simp; done) | (go_simp; rfl)); intro gb161 hg w6 hbox hb; have n0_ := Aside0.mk (below_step belowNow hb); have n1_ := Aside0.mk (hbox); have n2_ := Aside0.mk ((by rw [hg]; exact (below_size belowNow) : w.heap.size ≤ gb161)); have n3_ := n2_; clear HB; have HB := n0_; have BK161 := n1_; have GW161 := n2_; have GE161 := n3_; clear n0_ n1_ n2_ n3_; clear hb hbox hg) | ((with_reducible refine gate_dst (N := 3) rfl ?_); refine box_event ?hg (N := 3) ?hd (cs := #[.int .i64 a1_0, .int .i64 a1_1, .int .i64 a1_2, .int .i64 a1_3, .int .i64 a1_4]) (t := 47) ?hr ?_; (case hd => rfl); (case hg => rfl); (case hr => first | (go_simp; done) | (go_simp; rfl)); intro gb162 hg w7 hbox hb; have n0_ := Aside0.mk (blkStep (g := gb161) hb); have n1_ := Aside0.mk (below_step belowNow hb); have n2_ := Aside0.mk (hbox); have n3_ := Aside0.mk ((by rw [hg]; exact (below_size belowNow) : w.heap.size ≤ gb162)); have n4_ := n3_; have n5_ := Aside0.mk ((by rw [hg]; exact Nat.ne_of_lt (blkLt (g := gb161)) : gb161 ≠ gb162)); have n6_ := Aside0.mk ((by rw [hg]; exact Nat.ne_of_gt (blkLt (g := gb161)) : gb162 ≠ gb161)); clear BK161; clear HB; have BK161 := n0_; have HB := n1_; have BK162 := n2_; have GW162 := n3_; have GE162 := n4_; have NB161_162 := n5_; have NB162_161 := n6_; clear n0_ n1_ n2_ n3_ n4_ n5_ n6_; clear hb hbox hg) | ((with_reducible refine gate_dst (N := 4) rfl ?_); refine box_event ?hg (N := 4) ?hd (cs := #[.int .i64 0, .slice none 0 0, .slice none 0 0, .int .i64 0]) (t := 31) ?hr ?_; (case hd => rfl); (case hg => rfl); (case hr => first | (go_simp; done) | (go_simp; rfl)); intro gb163 hg w8 hbox hb; have n0_ := Aside0.mk (blkStep (g := gb161) hb); have n1_ := Aside0.mk (blkStep (g := gb162) hb); have n2_ := Aside0.mk (below_step belowNow hb); have n3_ := Aside0.mk (hbox); have n4_ := Aside0.mk ((by rw [hg]; exact (below_size belowNow) : w.heap.size ≤ gb163)); have n5_ := n4_; have n6_ := Aside0.mk ((by rw [hg]; exact Nat.ne_of_lt (blkLt (g := gb161)) : gb161 ≠ gb163)); have n7_ := Aside0.mk ((by rw [hg]; exact Nat.ne_of_gt (blkLt (g := gb161)) : gb163 ≠ gb161)); have n8_ := Aside0.mk ((by rw [hg]; exact Nat.ne_of_lt (blkLt (g := gb162)) : gb162 ≠ gb163)); have n9_ := Aside0.mk ((by rw [hg]; exact Nat.ne_of_gt (blkLt (g := gb162)) : gb163 ≠ gb162)); clear BK161; clear BK162; clear HB; have BK161 := n0_; have BK162 := n1_; have HB := n2_; have BK163 := n3_; have GW163 := n4_; have GE163 := n5_; have NB161_163 := n6_; have NB163_161 := n7_; have NB162_163 := n8_; have NB163_162 := n9_; clear n0_ n1_ n2_ n3_ n4_ n5_ n6_ n7_ n8_ n9_; clear hb hbox hg; have hnb9 := NB161_162.out; have hnc9 := NB162_161.out; have hnb10 := NB161_163.out; have hnc10 := NB163_161.out; have hcz11_0 : w8.cell? ⟨gb161, 0, none⟩ = some (.int .i64 a0_0) := (blk_cell BK161.out 0).trans rfl; have hcz11_1 : w8.cell? ⟨gb161, 1, none⟩ = some (.slice A0_1 l0_1.length c0_1) := (blk_cell BK161.out 1).trans rfl; have hcz11_2 : w8.cell? ⟨gb161, 2, none⟩ = some (.slice A0_2 l0_2.length c0_2) := (blk_cell BK161.out 2).trans rfl; have hcz11_3 : w8.cell? ⟨gb161, 3, none⟩ = some (.int .i64 a0_3) := (blk_cell BK161.out 3).trans rfl; have hfz11_0 := blk_frozen BK161.out 0; have hfz11_1 := blk_frozen BK161.out 1; have hfz11_2 := blk_frozen BK161.out 2; have hfz11_3 := blk_frozen BK161.out 3) | ((with_reducible refine gate_callee (f := 48) rfl ?_); refine goesL_ (some 17) rfl rfl Try.func48 (by kernel_rfl) rfl #[.agg #[.int .i64 a0_0, .slice A0_1 l0_1.length c0_1, .slice A0_2 l0_2.length c0_2, .int .i64 a0_3]] rfl (by (try simp only [List.map_toArray, List.map_cons, List.map_nil]); first | done | rfl | (simp only [List.length_drop, List.length_take]; rfl)) ?_; (with_reducible refine (impl_ownDesk.calls a0_0 _ _ l0_1 _ _ l0_2 a0_3 t164 t165 t168 t171 _ ?side1 ?side2 ?side3 ?side4 A3.out).mono ?_); (case side1 => repeat (first | exact (Kd.C_below HR0_1.out HB.out) | (with_reducible refine Kd.C_alloc ?_ _) | (with_reducible refine Kd.C_drewN ?_ _) | (with_reducible refine Kd.C_drew ?_))); (case side2 => exact HC0_1.out); (case side3 => repeat (first | exact (Kd.C_below HR0_2.out HB.out) | (with_reducible refine Kd.C_alloc ?_ _) | (with_reducible refine Kd.C_drewN ?_ _) | (with_reducible refine Kd.C_drew ?_))); (case side4 => exact HC0_2.out); rintro e w12 ⟨v166, v169, rfl, ho0, ho1, hb⟩; refine ⟨_, rfl, ?_⟩; have n0_ := Aside0.mk (Kd.R_lower ho0 (below_size belowNow)); have n1_ := Aside0.mk (Kd.R_lower ho1 (below_size belowNow)); have n2_ := Aside0.mk (blkStep (g := gb161) hb); have n3_ := Aside0.mk (blkStep (g := gb162) hb); have n4_ := Aside0.mk (blkStep (g := gb163) hb); have n5_ := Aside0.mk (below_step belowNow hb); clear BK161; clear BK162; clear BK163; clear HB; have HO167 := n0_; have HO170 := n1_; have BK161 := n2_; have BK162 := n3_; have BK163 := n4_; have HB := n5_; clear n0_ n1_ n2_ n3_ n4_ n5_; (try clear hb); (try clear hb2); (try clear hk); (try clear hi); (try clear ho0); (try clear ho1)) | ((with_reducible refine gate_dst (N := 7) rfl ?_); refine box_event ?hg (N := 7) ?hd (cs := #[.int .i64 0, .slice none 0 0, .slice none 0 0, .int .i64 0]) (t := 31) ?hr ?_; (case hd => rfl); (case hg => rfl); (case hr => first | (go_simp; done) | (go_simp; rfl)); intro gb172 hg w13 hbox hb; have n0_ := Aside0.mk (Kd.R_below (by (with_reducible repeat (first | apply Kd.R_alloc | apply Kd.R_drewN | apply Kd.R_drew)); exact HO167.out) hb); have n1_ := Aside0.mk (Kd.R_below (by (with_reducible repeat (first | apply Kd.R_alloc | apply Kd.R_drewN | apply Kd.R_drew)); exact HO170.out) hb); have n2_ := Aside0.mk (blkStep (g := gb161) hb); have n3_ := Aside0.mk (blkStep (g := gb162) hb); have n4_ := Aside0.mk (blkStep (g := gb163) hb); have n5_ := Aside0.mk (below_step belowNow hb); have n6_ := Aside0.mk (hbox); have n7_ := Aside0.mk ((by rw [hg]; exact (below_size belowNow) : w.heap.size ≤ gb172)); have n8_ := n7_; have n9_ := Aside0.mk ((by rw [hg]; exact Nat.ne_of_lt (blkLt (g := gb161)) : gb161 ≠ gb172)); have n10_ := Aside0.mk ((by rw [hg]; exact Nat.ne_of_gt (blkLt (g := gb161)) : gb172 ≠ gb161)); have n11_ := Aside0.mk ((by rw [hg]; exact Nat.ne_of_lt (blkLt (g := gb162)) : gb162 ≠ gb172)); have n12_ := Aside0.mk ((by rw [hg]; exact Nat.ne_of_gt (blkLt (g := gb162)) : gb172 ≠ gb162)); have n13_ := Aside0.mk ((by rw [hg]; exact Nat.ne_of_lt (blkLt (g := gb163)) : gb163 ≠ gb172)); have n14_ := Aside0.mk ((by rw [hg]; exact Nat.ne_of_gt (blkLt (g := gb163)) : gb172 ≠ gb163)); clear HO167; clear HO170; clear BK161; clear BK162; clear BK163; clear HB; have HO167 := n0_; have HO170 := n1_; have BK161 := n2_; have BK162 := n3_; have BK163 := n4_; have HB := n5_; have BK172 := n6_; have GW172 := n7_; have GE172 := n8_; have NB161_172 := n9_; have NB172_161 := n10_; have NB162_172 := n11_; have NB172_162 := n12_; have NB163_172 := n13_; have NB172_163 := n14_; clear n0_ n1_ n2_ n3_ n4_ n5_ n6_ n7_ n8_ n9_ n10_ n11_ n12_ n13_ n14_; clear hb hbox hg; have hnb14 := NB172_161.out; have hnc14 := NB161_172.out; have hnb15 := NB172_162.out; have hnc15 := NB162_172.out; have hnb16 := NB172_163.out; have hnc16 := NB163_172.out; have hcz17_0 : w13.cell? ⟨gb172, 0, none⟩ = some (.int .i64 0) := (blk_cell BK172.out 0).trans rfl; have hcz17_1 : w13.cell? ⟨gb172, 1, none⟩ = some (.slice none 0 0) := (blk_cell BK172.out 1).trans rfl; have hcz17_2 : w13.cell? ⟨gb172, 2, none⟩ = some (.slice none 0 0) := (blk_cell BK172.out 2).trans rfl; have hcz17_3 : w13.cell? ⟨gb172, 3, none⟩ = some (.int .i64 0) := (blk_cell BK172.out 3).trans rfl; have hfz17_0 := blk_frozen BK172.out 0; have hfz17_1 := blk_frozen BK172.out 1; have hfz17_2 := blk_frozen BK172.out 2; have hfz17_3 := blk_frozen BK172.out 3; obtain ⟨Ao18, co18, eo18⟩ := Kd.R_slice HO167.out; subst eo18; obtain ⟨Ao19, co19, eo19⟩ := Kd.R_slice HO170.out; subst eo19; have hcz20_0 : w13.cell? ⟨gb161, 0, none⟩ = some (.int .i64 a0_0) := (blk_cell BK161.out 0).trans rfl; have hcz20_1 : w13.cell? ⟨gb161, 1, none⟩ = some (.slice A0_1 l0_1.length c0_1) := (blk_cell BK161.out 1).trans rfl; have hcz20_2 : w13.cell? ⟨gb161, 2, none⟩ = some (.slice A0_2 l0_2.length c0_2) := (blk_cell BK161.out 2).trans rfl; have hcz20_3 : w13.cell? ⟨gb161, 3, none⟩ = some (.int .i64 a0_3) := (blk_cell BK161.out 3).trans rfl; have hfz20_0 := blk_frozen BK161.out 0; have hfz20_1 := blk_frozen BK161.out 1; have hfz20_2 := blk_frozen BK161.out 2; have hfz20_3 := blk_frozen BK161.out 3) | ((with_reducible refine gate_callee (f := 48) rfl ?_); refine goesL_ (some 19) rfl rfl Try.func48 (by kernel_rfl) rfl #[.agg #[.int .i64 a0_0, .slice A0_1 l0_1.length c0_1, .slice A0_2 l0_2.length c0_2, .int .i64 a0_3]] rfl (by (try simp only [List.map_toArray, List.map_cons, List.map_nil]); first | done | rfl | (simp only [List.length_drop, List.length_take]; rfl)) ?_; (with_reducible refine (impl_ownDesk.calls a0_0 _ _ l0_1 _ _ l0_2 a0_3 t173 t174 t177 t180 _ ?side1 ?side2 ?side3 ?side4 A4.out).mono ?_); (case side1 => exact Kd.C_below HR0_1.out belowNow); (case side2 => exact HC0_1.out); (case side3 => exact Kd.C_below HR0_2.out belowNow); (case side4 => exact HC0_2.out); rintro e w21 ⟨v175, v178, rfl, ho0, ho1, hb⟩; refine ⟨_, rfl, ?_⟩; have n0_ := Aside0.mk (Kd.R_elder' (by (with_reducible repeat (first | apply Kd.R_alloc | apply Kd.R_drewN | apply Kd.R_drew)); exact (Kd.R_mono (Kd.R_far (p := ⟨gb172, 3, none⟩) (Kd.R_far (p := ⟨gb172, 2, none⟩) (Kd.R_far (p := ⟨gb172, 1, none⟩) (Kd.R_far (p := ⟨gb172, 0, none⟩) (Kd.R_types HO167.out BK172.out (by decide)) (fun _ hk => hk.2) (.int .i64 t164)) (fun _ hk => hk.2) (.slice Ao18 t165.length co18)) (fun _ hk => hk.2) (.slice Ao19 t168.length co19)) (fun _ hk => hk.2) (.int .i64 t171)) (fun _ h_ => h_.1))) (Kd.R_base ho0) hb); have n1_ := Aside0.mk (Kd.R_elder' (by (with_reducible repeat (first | apply Kd.R_alloc | apply Kd.R_drewN | apply Kd.R_drew)); exact (Kd.R_mono (Kd.R_far (p := ⟨gb172, 3, none⟩) (Kd.R_far (p := ⟨gb172, 2, none⟩) (Kd.R_far (p := ⟨gb172, 1, none⟩) (Kd.R_far (p := ⟨gb172, 0, none⟩) (Kd.R_types HO170.out BK172.out (by decide)) (fun _ hk => hk.2) (.int .i64 t164)) (fun _ hk => hk.2) (.slice Ao18 t165.length co18)) (fun _ hk => hk.2) (.slice Ao19 t168.length co19)) (fun _ hk => hk.2) (.int .i64 t171)) (fun _ h_ => h_.1))) (Kd.R_base ho1) hb); have n2_ := Aside0.mk (Kd.R_lower (Kd.R_new' ho0 (Kd.R_lt (by (with_reducible repeat (first | apply Kd.R_alloc | apply Kd.R_drewN | apply Kd.R_drew)); exact (Kd.R_mono (Kd.R_far (p := ⟨gb172, 3, none⟩) (Kd.R_far (p := ⟨gb172, 2, none⟩) (Kd.R_far (p := ⟨gb172, 1, none⟩) (Kd.R_far (p := ⟨gb172, 0, none⟩) (Kd.R_types HO167.out BK172.out (by decide)) (fun _ hk => hk.2) (.int .i64 t164)) (fun _ hk => hk.2) (.slice Ao18 t165.length co18)) (fun _ hk => hk.2) (.slice Ao19 t168.length co19)) (fun _ hk => hk.2) (.int .i64 t171)) (fun _ h_ => h_.1))))) (below_size belowNow)); have n3_ := Aside0.mk (Kd.R_lower (Kd.R_new' ho1 (Kd.R_lt (by (with_reducible repeat (first | apply Kd.R_alloc | apply Kd.R_drewN | apply Kd.R_drew)); exact (Kd.R_mono (Kd.R_far (p := ⟨gb172, 3, none⟩) (Kd.R_far (p := ⟨gb172, 2, none⟩) (Kd.R_far (p := ⟨gb172, 1, none⟩) (Kd.R_far (p := ⟨gb172, 0, none⟩) (Kd.R_types HO170.out BK172.out (by decide)) (fun _ hk => hk.2) (.int .i64 t164)) (fun _ hk => hk.2) (.slice Ao18 t165.length co18)) (fun _ hk => hk.2) (.slice Ao19 t168.length co19)) (fun _ hk => hk.2) (.int .i64 t171)) (fun _ h_ => h_.1))))) (below_size belowNow)); have n4_ := Aside0.mk (blk_below (g := gb161) (o := .cells #[.int .i64 a0_0, .slice A0_1 l0_1.length c0_1, .slice A0_2 l0_2.length c0_2, .int .i64 a0_3] 31 (0, 0)) (blkFars) hb); have n5_ := Aside0.mk (blk_below (g := gb162) (o := .cells #[.int .i64 a1_0, .int .i64 a1_1, .int .i64 a1_2, .int .i64 a1_3, .int .i64 a1_4] 47 (0, 0)) (blkFars) hb); have n6_ := Aside0.mk (blk_below (g := gb163) (o := .cells #[.int .i64 0, .slice none 0 0, .slice none 0 0, .int .i64 0] 31 (0, 0)) (blkFars) hb); have n7_ := Aside0.mk (blk_below (g := gb172) (o := .cells #[.int .i64 t164, .slice Ao18 t165.length co18, .slice Ao19 t168.length co19, .int .i64 t171] 31 (0, 0)) (by (with_reducible repeat (first | refine blk_drewN ?_ _ | refine blk_drew ?_ | refine blk_alloc ?_ _)); refine blk_put (cs := #[.int .i64 t164, .slice Ao18 t165.length co18, .slice Ao19 t168.length co19, .int .i64 0]) ?_ 3 _ rfl; (with_reducible repeat (first | refine blk_drewN ?_ _ | refine blk_drew ?_ | refine blk_alloc ?_ _)); refine blk_put (cs := #[.int .i64 t164, .slice Ao18 t165.length co18, .slice none 0 0, .int .i64 0]) ?_ 2 _ rfl; (with_reducible repeat (first | refine blk_drewN ?_ _ | refine blk_drew ?_ | refine blk_alloc ?_ _)); refine blk_put (cs := #[.int .i64 t164, .slice none 0 0, .slice none 0 0, .int .i64 0]) ?_ 1 _ rfl; (with_reducible repeat (first | refine blk_drewN ?_ _ | refine blk_drew ?_ | refine blk_alloc ?_ _)); refine blk_put (cs := #[.int .i64 0, .slice none 0 0, .slice none 0 0, .int .i64 0]) ?_ 0 _ rfl; (with_reducible repeat (first | refine blk_drewN ?_ _ | refine blk_drew ?_ | refine blk_alloc ?_ _)); exact BK172.out) hb); have n8_ := Aside0.mk (below_step belowNow hb); clear HO167; clear HO170; clear BK161; clear BK162; clear BK163; clear BK172; clear HB; have HO167 := n0_; have HO170 := n1_; have HO176 := n2_; have HO179 := n3_; have BK161 := n4_; have BK162 := n5_; have BK163 := n6_; have BK172 := n7_; have HB := n8_; clear n0_ n1_ n2_ n3_ n4_ n5_ n6_ n7_ n8_; (try clear hb); (try clear hb2); (try clear hk); (try clear hi); (try clear ho0); (try clear ho1); have hcz22_0 : w21.cell? ⟨gb161, 0, none⟩ = some (.int .i64 a0_0) := (blk_cell BK161.out 0).trans rfl; have hcz22_1 : w21.cell? ⟨gb161, 1, none⟩ = some (.slice A0_1 l0_1.length c0_1) := (blk_cell BK161.out 1).trans rfl; have hcz22_2 : w21.cell? ⟨gb161, 2, none⟩ = some (.slice A0_2 l0_2.length c0_2) := (blk_cell BK161.out 2).trans rfl; have hcz22_3 : w21.cell? ⟨gb161, 3, none⟩ = some (.int .i64 a0_3) := (blk_cell BK161.out 3).trans rfl; have hfz22_0 := blk_frozen BK161.out 0; have hfz22_1 := blk_frozen BK161.out 1; have hfz22_2 := blk_frozen BK161.out 2; have hfz22_3 := blk_frozen BK161.out 3; obtain ⟨Ao23, co23, eo23⟩ := Kd.R_slice HO176.out; subst eo23; obtain ⟨Ao24, co24, eo24⟩ := Kd.R_slice HO179.out; subst eo24) | ((with_reducible refine gate_store (t := 31) (p := 2) rfl ?_); refine store_event (t := 31) (p := 2) (v := ?vo_w25) (w1 := ((((w21.setCell ⟨gb161, 0, none⟩ (.int .i64 t173)).setCell ⟨gb161, 1, none⟩ (.slice Ao23 t174.length co23)).setCell ⟨gb161, 2, none⟩ (.slice Ao24 t177.length co24)).setCell ⟨gb161, 3, none⟩ (.int .i64 t180))) ?hg ?ho ?hn ?hr ?_; (case ho => rfl); (case hg => rfl); (case hn => rfl); (case hr => first | (go_simp; done) | (go_simp; rfl)); intro w25 hw; have n0_ : Aside0 (Kd.R k41 41 w25 w.heap.size (fun k_ => some k_ ≠ (.slice Ao23 t174.length co23 : Value).ownBlock) (.slice Ao18 t165.length co18) t165) := ⟨(by rw [hw]; exact (by (with_reducible repeat (first | apply Kd.R_alloc | apply Kd.R_drewN | apply Kd.R_drew)); exact Kd.R_mono (Kd.R_far (p := ⟨gb161, 3, none⟩) (Kd.R_far (p := ⟨gb161, 2, none⟩) (Kd.R_far (p := ⟨gb161, 1, none⟩) (Kd.R_far (p := ⟨gb161, 0, none⟩) (Kd.R_types HO167.out BK161.out (by decide)) (fun _ hk => hk.2) (.int .i64 t173)) (fun _ hk => hk.2) (.slice Ao23 t174.length co23)) (fun _ hk => hk.2) (.slice Ao24 t177.length co24)) (fun _ hk => hk.2) (.int .i64 t180)) (fun _ hk => hk.1.2)))⟩; have n1_ : Aside0 (Kd.R k70 70 w25 w.heap.size (fun k_ => some k_ ≠ (.slice Ao24 t177.length co24 : Value).ownBlock) (.slice Ao19 t168.length co19) t168) := ⟨(by rw [hw]; exact (by (with_reducible repeat (first | apply Kd.R_alloc | apply Kd.R_drewN | apply Kd.R_drew)); exact Kd.R_mono (Kd.R_far (p := ⟨gb161, 3, none⟩) (Kd.R_far (p := ⟨gb161, 2, none⟩) (Kd.R_far (p := ⟨gb161, 1, none⟩) (Kd.R_far (p := ⟨gb161, 0, none⟩) (Kd.R_types HO170.out BK161.out (by decide)) (fun _ hk => hk.2) (.int .i64 t173)) (fun _ hk => hk.2) (.slice Ao23 t174.length co23)) (fun _ hk => hk.2) (.slice Ao24 t177.length co24)) (fun _ hk => hk.2) (.int .i64 t180)) (fun _ hk => hk.1.2)))⟩; have n2_ : Aside0 (Kd.R k41 41 w25 w.heap.size (fun k_ => some k_ ≠ (.slice Ao18 t165.length co18 : Value).ownBlock) (.slice Ao23 t174.length co23) t174) := ⟨(by rw [hw]; exact (by (with_reducible repeat (first | apply Kd.R_alloc | apply Kd.R_drewN | apply Kd.R_drew)); exact Kd.R_mono (Kd.R_far (p := ⟨gb161, 3, none⟩) (Kd.R_far (p := ⟨gb161, 2, none⟩) (Kd.R_far (p := ⟨gb161, 1, none⟩) (Kd.R_far (p := ⟨gb161, 0, none⟩) (Kd.R_types HO176.out BK161.out (by decide)) (fun _ hk => hk.2) (.int .i64 t173)) (fun _ hk => hk.2) (.slice Ao23 t174.length co23)) (fun _ hk => hk.2) (.slice Ao24 t177.length co24)) (fun _ hk => hk.2) (.int .i64 t180)) (fun _ hk => hk.1.2)))⟩; have n3_ : Aside0 (Kd.R k70 70 w25 w.heap.size (fun k_ => some k_ ≠ (.slice Ao19 t168.length co19 : Value).ownBlock) (.slice Ao24 t177.length co24) t177) := ⟨(by rw [hw]; exact (by (with_reducible repeat (first | apply Kd.R_alloc | apply Kd.R_drewN | apply Kd.R_drew)); exact Kd.R_mono (Kd.R_far (p := ⟨gb161, 3, none⟩) (Kd.R_far (p := ⟨gb161, 2, none⟩) (Kd.R_far (p := ⟨gb161, 1, none⟩) (Kd.R_far (p := ⟨gb161, 0, none⟩) (Kd.R_types HO179.out BK161.out (by decide)) (fun _ hk => hk.2) (.int .i64 t173)) (fun _ hk => hk.2) (.slice Ao23 t174.length co23)) (fun _ hk => hk.2) (.slice Ao24 t177.length co24)) (fun _ hk => hk.2) (.int .i64 t180)) (fun _ hk => hk.1.2)))⟩; have n4_ : Aside0 (w25.heap[gb161]? = some (.cells #[.int .i64 t173, .slice Ao23 t174.length co23, .slice Ao24 t177.length co24, .int .i64 t180] 31 (0, 0))) := ⟨(by rw [hw]; exact (by (with_reducible repeat (first | refine blk_drewN ?_ _ | refine blk_drew ?_ | refine blk_alloc ?_ _)); refine blk_put (cs := #[.int .i64 t173, .slice Ao23 t174.length co23, .slice Ao24 t177.length co24, .int .i64 a0_3]) ?_ 3 _ rfl; (with_reducible repeat (first | refine blk_drewN ?_ _ | refine blk_drew ?_ | refine blk_alloc ?_ _)); refine blk_put (cs := #[.int .i64 t173, .slice Ao23 t174.length co23, .slice A0_2 l0_2.length c0_2, .int .i64 a0_3]) ?_ 2 _ rfl; (with_reducible repeat (first | refine blk_drewN ?_ _ | refine blk_drew ?_ | refine blk_alloc ?_ _)); refine blk_put (cs := #[.int .i64 t173, .slice A0_1 l0_1.length c0_1, .slice A0_2 l0_2.length c0_2, .int .i64 a0_3]) ?_ 1 _ rfl; (with_reducible repeat (first | refine blk_drewN ?_ _ | refine blk_drew ?_ | refine blk_alloc ?_ _)); refine blk_put (cs := #[.int .i64 a0_0, .slice A0_1 l0_1.length c0_1, .slice A0_2 l0_2.length c0_2, .int .i64 a0_3]) ?_ 0 _ rfl; (with_reducible repeat (first | refine blk_drewN ?_ _ | refine blk_drew ?_ | refine blk_alloc ?_ _)); exact BK161.out))⟩; have n5_ : Aside0 (w25.heap[gb162]? = some (.cells #[.int .i64 a1_0, .int .i64 a1_1, .int .i64 a1_2, .int .i64 a1_3, .int .i64 a1_4] 47 (0, 0))) := ⟨(by rw [hw]; exact (blkFars))⟩; have n6_ : Aside0 (w25.heap[gb163]? = some (.cells #[.int .i64 0, .slice none 0 0, .slice none 0 0, .int .i64 0] 31 (0, 0))) := ⟨(by rw [hw]; exact (blkFars))⟩; have n7_ : Aside0 (w25.heap[gb172]? = some (.cells #[.int .i64 t164, .slice Ao18 t165.length co18, .slice Ao19 t168.length co19, .int .i64 t171] 31 (0, 0))) := ⟨(by rw [hw]; exact (blkFars))⟩; have n8_ : Aside0 (Below w.heap.size w w25) := ⟨(by rw [hw]; exact belowNow)⟩; clear hw; clear HO167; clear HO170; clear HO176; clear HO179; clear BK161; clear BK162; clear BK163; clear BK172; clear HB; have HO167 := n0_; have HO170 := n1_; have HO176 := n2_; have HO179 := n3_; have BK161 := n4_; have BK162 := n5_; have BK163 := n6_; have BK172 := n7_; have HB := n8_; clear n0_ n1_ n2_ n3_ n4_ n5_ n6_ n7_ n8_))
 (try simp only [Act.put, List.setIfInBounds_toArray, List.set_cons_zero, List.set_cons_succ])
 go_cut [9] (fun v9 wc => ∃ (kq : Nat) (x9_4 : Bool), v9 = .bool x9_4 ∧ Aside0 (impl_DoDesk.j0 kq x9_4 t173 t174 t177 t180 a1_0 a1_1 a1_2 a1_3 a1_4 t164 t165 t168 t171 = some (r1, r2, r3, r4, r5, r6)) ∧ Aside0 (kq ≤ k) ∧ Aside0 (Kd.R k41 41 wc w.heap.size (fun k_ => some k_ ≠ ((.slice Ao18 t165.length co18) : Value).ownBlock) (.slice Ao23 t174.length co23) t174) ∧ Aside0 (Kd.R k70 70 wc w.heap.size (fun k_ => some k_ ≠ ((.slice Ao19 t168.length co19) : Value).ownBlock) (.slice Ao24 t177.length co24) t177) ∧ Aside0 (Kd.R k41 41 wc w.heap.size (fun k_ => some k_ ≠ ((.slice Ao23 t174.length co23) : Value).ownBlock) (.slice Ao18 t165.length co18) t165) ∧ Aside0 (Kd.R k70 70 wc w.heap.size (fun k_ => some k_ ≠ ((.slice Ao24 t177.length co24) : Value).ownBlock) (.slice Ao19 t168.length co19) t168) ∧ Aside0 (wc.heap[gb161]? = some (.cells #[.int .i64 t173, (.slice Ao23 t174.length co23), (.slice Ao24 t177.length co24), .int .i64 t180] 31 (0, 0))) ∧ Aside0 (wc.heap[gb162]? = some (.cells #[.int .i64 a1_0, .int .i64 a1_1, .int .i64 a1_2, .int .i64 a1_3, .int .i64 a1_4] 47 (0, 0))) ∧ Aside0 (wc.heap[gb163]? = some (.cells #[.int .i64 0, (.slice none 0 0), (.slice none 0 0), .int .i64 0] 31 (0, 0))) ∧ Aside0 (wc.heap[gb172]? = some (.cells #[.int .i64 t164, (.slice Ao18 t165.length co18), (.slice Ao19 t168.length co19), .int .i64 t171] 31 (0, 0))) ∧ Aside0 (Below w.heap.size w wc))
 case first =>
  have H := HC5.out
  clear HC5
  replace H := Option.bind_eq_some_iff.mp H
  obtain ⟨t181, A260, H⟩ := H
  replace H : (if t181 = true then ((impl_in.f a1_1 t173 1000000000).bind fun t182 => (if t182 = true then ((impl_in.f a1_0 1 4).bind fun t183 => (impl_DoDesk.j0 k t183 t173 t174 t177 t180 a1_0 a1_1 a1_2 a1_3 a1_4 t164 t165 t168 t171)) else (impl_DoDesk.j0 k false t173 t174 t177 t180 a1_0 a1_1 a1_2 a1_3 a1_4 t164 t165 t168 t171))) else (impl_DoDesk.j0 k false t173 t174 t177 t180 a1_0 a1_1 a1_2 a1_3 a1_4 t164 t165 t168 t171)) = some (r1, r2, r3, r4, r5, r6) := H
  have A26 := Aside0.mk A260
  clear A260
  by_cases c27 : t181 = true
  ·subst c27
   have H1 : ((impl_in.f a1_1 t173 1000000000).bind fun t182 => (if t182 = true then ((impl_in.f a1_0 1 4).bind fun t183 => (impl_DoDesk.j0 k t183 t173 t174 t177 t180 a1_0 a1_1 a1_2 a1_3 a1_4 t164 t165 t168 t171)) else (impl_DoDesk.j0 k false t173 t174 t177 t180 a1_0 a1_1 a1_2 a1_3 a1_4 t164 t165 t168 t171))) = some (r1, r2, r3, r4, r5, r6) := by rw [if_pos rfl] at H; exact H
   clear H
   have H := H1
   clear H1
   replace H := Option.bind_eq_some_iff.mp H
   obtain ⟨t182, A280, H⟩ := H
   replace H : (if t182 = true then ((impl_in.f a1_0 1 4).bind fun t183 => (impl_DoDesk.j0 k t183 t173 t174 t177 t180 a1_0 a1_1 a1_2 a1_3 a1_4 t164 t165 t168 t171)) else (impl_DoDesk.j0 k false t173 t174 t177 t180 a1_0 a1_1 a1_2 a1_3 a1_4 t164 t165 t168 t171)) = some (r1, r2, r3, r4, r5, r6) := H
   have A28 := Aside0.mk A280
   clear A280
   by_cases c29 : t182 = true
   ·subst c29
    have H1 : ((impl_in.f a1_0 1 4).bind fun t183 => (impl_DoDesk.j0 k t183 t173 t174 t177 t180 a1_0 a1_1 a1_2 a1_3 a1_4 t164 t165 t168 t171)) = some (r1, r2, r3, r4, r5, r6) := by rw [if_pos rfl] at H; exact H
    clear H
    have H := H1
    clear H1
    replace H := Option.bind_eq_some_iff.mp H
    obtain ⟨t183, A300, H⟩ := H
    replace H : (impl_DoDesk.j0 k t183 t173 t174 t177 t180 a1_0 a1_1 a1_2 a1_3 a1_4 t164 t165 t168 t171) = some (r1, r2, r3, r4, r5, r6) := H
    have A30 := Aside0.mk A300
    clear A300
    as_aux_lemma =>
     have H' := Aside0.mk H
     clear H
     have hnb31 := NB161_162.out
     have hnc31 := NB162_161.out
     have hnb32 := NB161_163.out
     have hnc32 := NB163_161.out
     have hnb33 := NB161_172.out
     have hnc33 := NB172_161.out
     have hcz34_0 := cz_ BK161.out 0 rfl
     have hcz34_1 := cz_ BK161.out 1 rfl
     have hcz34_2 := cz_ BK161.out 2 rfl
     have hcz34_3 := cz_ BK161.out 3 rfl
     have hfz34_0 := blk_frozen BK161.out 0
     have hfz34_1 := blk_frozen BK161.out 1
     have hfz34_2 := blk_frozen BK161.out 2
     have hfz34_3 := blk_frozen BK161.out 3
     go_wp2_with (first | ((with_reducible refine gate_callee (f := 12) rfl ?_); refine goesL_ (some 22) rfl rfl Try.func12 (by kernel_rfl) rfl #[.agg #[.int .i64 t173, .slice Ao23 t174.length co23, .slice Ao24 t177.length co24, .int .i64 t180]] rfl (by (try simp only [List.map_toArray, List.map_cons, List.map_nil]); first | done | rfl | (simp only [List.length_drop, List.length_take]; rfl)) ?_; (with_reducible refine (impl_DeskOk.calls k t173 _ _ t174 _ _ t177 t180 true _ ?side1 ?side2 ?side3 ?side4 A26.out).mono ?_); (case side1 => repeat (first | exact (Kd.R_reads' HO176.out).2.2 | (with_reducible refine Kd.C_alloc ?_ _) | (with_reducible refine Kd.C_drewN ?_ _) | (with_reducible refine Kd.C_drew ?_))); (case side2 => exact (Kd.R_reads' HO176.out).2.1); (case side3 => repeat (first | exact (Kd.R_reads' HO179.out).2.2 | (with_reducible refine Kd.C_alloc ?_ _) | (with_reducible refine Kd.C_drewN ?_ _) | (with_reducible refine Kd.C_drew ?_))); (case side4 => exact (Kd.R_reads' HO179.out).2.1); rintro e w35 ⟨rfl, hb⟩; refine ⟨_, rfl, ?_⟩; have n0_ := Aside0.mk (Kd.R_below (by (with_reducible repeat (first | apply Kd.R_alloc | apply Kd.R_drewN | apply Kd.R_drew)); exact HO167.out) hb); have n1_ := Aside0.mk (Kd.R_below (by (with_reducible repeat (first | apply Kd.R_alloc | apply Kd.R_drewN | apply Kd.R_drew)); exact HO170.out) hb); have n2_ := Aside0.mk (Kd.R_below (by (with_reducible repeat (first | apply Kd.R_alloc | apply Kd.R_drewN | apply Kd.R_drew)); exact HO176.out) hb); have n3_ := Aside0.mk (Kd.R_below (by (with_reducible repeat (first | apply Kd.R_alloc | apply Kd.R_drewN | apply Kd.R_drew)); exact HO179.out) hb); have n4_ := Aside0.mk (blkStep (g := gb161) hb); have n5_ := Aside0.mk (blkStep (g := gb162) hb); have n6_ := Aside0.mk (blkStep (g := gb163) hb); have n7_ := Aside0.mk (blkStep (g := gb172) hb); have n8_ := Aside0.mk (below_step belowNow hb); clear HO167; clear HO170; clear HO176; clear HO179; clear BK161; clear BK162; clear BK163; clear BK172; clear HB; have HO167 := n0_; have HO170 := n1_; have HO176 := n2_; have HO179 := n3_; have BK161 := n4_; have BK162 := n5_; have BK163 := n6_; have BK172 := n7_; have HB := n8_; clear n0_ n1_ n2_ n3_ n4_ n5_ n6_ n7_ n8_; (try clear hb); (try clear hb2); (try clear hk); (try clear hi); have hnb36 := NB162_163.out; have hnc36 := NB163_162.out; have hnb37 := NB162_172.out; have hnc37 := NB172_162.out; have hcz38_0 : w35.cell? ⟨gb162, 0, none⟩ = some (.int .i64 a1_0) := (blk_cell BK162.out 0).trans rfl; have hcz38_1 : w35.cell? ⟨gb162, 1, none⟩ = some (.int .i64 a1_1) := (blk_cell BK162.out 1).trans rfl; have hcz38_2 : w35.cell? ⟨gb162, 2, none⟩ = some (.int .i64 a1_2) := (blk_cell BK162.out 2).trans rfl; have hcz38_3 : w35.cell? ⟨gb162, 3, none⟩ = some (.int .i64 a1_3) := (blk_cell BK162.out 3).trans rfl; have hcz38_4 : w35.cell? ⟨gb162, 4, none⟩ = some (.int .i64 a1_4) := (blk_cell BK162.out 4).trans rfl; have hfz38_0 := blk_frozen BK162.out 0; have hfz38_1 := blk_frozen BK162.out 1; have hfz38_2 := blk_frozen BK162.out 2; have hfz38_3 := blk_frozen BK162.out 3; have hfz38_4 := blk_frozen BK162.out 4; have hcz39_0 : w35.cell? ⟨gb161, 0, none⟩ = some (.int .i64 t173) := (blk_cell BK161.out 0).trans rfl; have hcz39_1 : w35.cell? ⟨gb161, 1, none⟩ = some (.slice Ao23 t174.length co23) := (blk_cell BK161.out 1).trans rfl; have hcz39_2 : w35.cell? ⟨gb161, 2, none⟩ = some (.slice Ao24 t177.length co24) := (blk_cell BK161.out 2).trans rfl; have hcz39_3 : w35.cell? ⟨gb161, 3, none⟩ = some (.int .i64 t180) := (blk_cell BK161.out 3).trans rfl; have hfz39_0 := blk_frozen BK161.out 0; have hfz39_1 := blk_frozen BK161.out 1; have hfz39_2 := blk_frozen BK161.out 2; have hfz39_3 := blk_frozen BK161.out 3) | (go_at_call 43; (with_reducible refine (impl_in.calls a1_1 t173 1000000000 true _ A28.out).mono ?_); rintro e w' ⟨rfl, ⟨nd, rfl⟩⟩) | (go_at_call 43; (with_reducible refine (impl_in.calls a1_0 1 4 t183 _ A30.out).mono ?_); rintro e w' ⟨rfl, ⟨nd, rfl⟩⟩))
     go_meet
     case rel => exact ⟨_, (t183), (by first | rfl | (simp; done) | (simp [*]; done)), H', ⟨by first | omega | exact Nat.le_refl _⟩, ⟨by (with_reducible repeat (first | apply Kd.R_alloc | apply Kd.R_drewN | apply Kd.R_drew)); exact HO176.out⟩, ⟨by (with_reducible repeat (first | apply Kd.R_alloc | apply Kd.R_drewN | apply Kd.R_drew)); exact HO179.out⟩, ⟨by (with_reducible repeat (first | apply Kd.R_alloc | apply Kd.R_drewN | apply Kd.R_drew)); exact HO167.out⟩, ⟨by (with_reducible repeat (first | apply Kd.R_alloc | apply Kd.R_drewN | apply Kd.R_drew)); exact HO170.out⟩, ⟨by (with_reducible repeat (first | refine blk_drewN ?_ _ | refine blk_drew ?_ | refine blk_alloc ?_ _)); exact BK161.out⟩, ⟨by (with_reducible repeat (first | refine blk_drewN ?_ _ | refine blk_drew ?_ | refine blk_alloc ?_ _)); exact BK162.out⟩, ⟨by (with_reducible repeat (first | refine blk_drewN ?_ _ | refine blk_drew ?_ | refine blk_alloc ?_ _)); exact BK163.out⟩, ⟨by (with_reducible repeat (first | refine blk_drewN ?_ _ | refine blk_drew ?_ | refine blk_alloc ?_ _)); exact BK172.out⟩, ⟨belowNow⟩⟩
   ·replace c29 := Bool.eq_false_iff.mpr c29
    subst c29
    have H1 : (impl_DoDesk.j0 k false t173 t174 t177 t180 a1_0 a1_1 a1_2 a1_3 a1_4 t164 t165 t168 t171) = some (r1, r2, r3, r4, r5, r6) := by rw [if_neg (show ¬ (false = true) by decide)] at H; exact H
    clear H
    have H := H1
    clear H1
    as_aux_lemma =>
     have H' := Aside0.mk H
     clear H
     have hnb40 := NB161_162.out
     have hnc40 := NB162_161.out
     have hnb41 := NB161_163.out
     have hnc41 := NB163_161.out
     have hnb42 := NB161_172.out
     have hnc42 := NB172_161.out
     have hcz43_0 := cz_ BK161.out 0 rfl
     have hcz43_1 := cz_ BK161.out 1 rfl
     have hcz43_2 := cz_ BK161.out 2 rfl
     have hcz43_3 := cz_ BK161.out 3 rfl
     have hfz43_0 := blk_frozen BK161.out 0
     have hfz43_1 := blk_frozen BK161.out 1
     have hfz43_2 := blk_frozen BK161.out 2
     have hfz43_3 := blk_frozen BK161.out 3
     go_wp2_with (first | ((with_reducible refine gate_callee (f := 12) rfl ?_); refine goesL_ (some 22) rfl rfl Try.func12 (by kernel_rfl) rfl #[.agg #[.int .i64 t173, .slice Ao23 t174.length co23, .slice Ao24 t177.length co24, .int .i64 t180]] rfl (by (try simp only [List.map_toArray, List.map_cons, List.map_nil]); first | done | rfl | (simp only [List.length_drop, List.length_take]; rfl)) ?_; (with_reducible refine (impl_DeskOk.calls k t173 _ _ t174 _ _ t177 t180 true _ ?side1 ?side2 ?side3 ?side4 A26.out).mono ?_); (case side1 => repeat (first | exact (Kd.R_reads' HO176.out).2.2 | (with_reducible refine Kd.C_alloc ?_ _) | (with_reducible refine Kd.C_drewN ?_ _) | (with_reducible refine Kd.C_drew ?_))); (case side2 => exact (Kd.R_reads' HO176.out).2.1); (case side3 => repeat (first | exact (Kd.R_reads' HO179.out).2.2 | (with_reducible refine Kd.C_alloc ?_ _) | (with_reducible refine Kd.C_drewN ?_ _) | (with_reducible refine Kd.C_drew ?_))); (case side4 => exact (Kd.R_reads' HO179.out).2.1); rintro e w44 ⟨rfl, hb⟩; refine ⟨_, rfl, ?_⟩; have n0_ := Aside0.mk (Kd.R_below (by (with_reducible repeat (first | apply Kd.R_alloc | apply Kd.R_drewN | apply Kd.R_drew)); exact HO167.out) hb); have n1_ := Aside0.mk (Kd.R_below (by (with_reducible repeat (first | apply Kd.R_alloc | apply Kd.R_drewN | apply Kd.R_drew)); exact HO170.out) hb); have n2_ := Aside0.mk (Kd.R_below (by (with_reducible repeat (first | apply Kd.R_alloc | apply Kd.R_drewN | apply Kd.R_drew)); exact HO176.out) hb); have n3_ := Aside0.mk (Kd.R_below (by (with_reducible repeat (first | apply Kd.R_alloc | apply Kd.R_drewN | apply Kd.R_drew)); exact HO179.out) hb); have n4_ := Aside0.mk (blkStep (g := gb161) hb); have n5_ := Aside0.mk (blkStep (g := gb162) hb); have n6_ := Aside0.mk (blkStep (g := gb163) hb); have n7_ := Aside0.mk (blkStep (g := gb172) hb); have n8_ := Aside0.mk (below_step belowNow hb); clear HO167; clear HO170; clear HO176; clear HO179; clear BK161; clear BK162; clear BK163; clear BK172; clear HB; have HO167 := n0_; have HO170 := n1_; have HO176 := n2_; have HO179 := n3_; have BK161 := n4_; have BK162 := n5_; have BK163 := n6_; have BK172 := n7_; have HB := n8_; clear n0_ n1_ n2_ n3_ n4_ n5_ n6_ n7_ n8_; (try clear hb); (try clear hb2); (try clear hk); (try clear hi); have hnb45 := NB162_163.out; have hnc45 := NB163_162.out; have hnb46 := NB162_172.out; have hnc46 := NB172_162.out; have hcz47_0 : w44.cell? ⟨gb162, 0, none⟩ = some (.int .i64 a1_0) := (blk_cell BK162.out 0).trans rfl; have hcz47_1 : w44.cell? ⟨gb162, 1, none⟩ = some (.int .i64 a1_1) := (blk_cell BK162.out 1).trans rfl; have hcz47_2 : w44.cell? ⟨gb162, 2, none⟩ = some (.int .i64 a1_2) := (blk_cell BK162.out 2).trans rfl; have hcz47_3 : w44.cell? ⟨gb162, 3, none⟩ = some (.int .i64 a1_3) := (blk_cell BK162.out 3).trans rfl; have hcz47_4 : w44.cell? ⟨gb162, 4, none⟩ = some (.int .i64 a1_4) := (blk_cell BK162.out 4).trans rfl; have hfz47_0 := blk_frozen BK162.out 0; have hfz47_1 := blk_frozen BK162.out 1; have hfz47_2 := blk_frozen BK162.out 2; have hfz47_3 := blk_frozen BK162.out 3; have hfz47_4 := blk_frozen BK162.out 4; have hcz48_0 : w44.cell? ⟨gb161, 0, none⟩ = some (.int .i64 t173) := (blk_cell BK161.out 0).trans rfl; have hcz48_1 : w44.cell? ⟨gb161, 1, none⟩ = some (.slice Ao23 t174.length co23) := (blk_cell BK161.out 1).trans rfl; have hcz48_2 : w44.cell? ⟨gb161, 2, none⟩ = some (.slice Ao24 t177.length co24) := (blk_cell BK161.out 2).trans rfl; have hcz48_3 : w44.cell? ⟨gb161, 3, none⟩ = some (.int .i64 t180) := (blk_cell BK161.out 3).trans rfl; have hfz48_0 := blk_frozen BK161.out 0; have hfz48_1 := blk_frozen BK161.out 1; have hfz48_2 := blk_frozen BK161.out 2; have hfz48_3 := blk_frozen BK161.out 3) | (go_at_call 43; (with_reducible refine (impl_in.calls a1_1 t173 1000000000 false _ A28.out).mono ?_); rintro e w' ⟨rfl, ⟨nd, rfl⟩⟩))
     go_meet
     case rel => exact ⟨_, (false), (by first | rfl | (simp; done) | (simp [*]; done)), H', ⟨by first | omega | exact Nat.le_refl _⟩, ⟨by (with_reducible repeat (first | apply Kd.R_alloc | apply Kd.R_drewN | apply Kd.R_drew)); exact HO176.out⟩, ⟨by (with_reducible repeat (first | apply Kd.R_alloc | apply Kd.R_drewN | apply Kd.R_drew)); exact HO179.out⟩, ⟨by (with_reducible repeat (first | apply Kd.R_alloc | apply Kd.R_drewN | apply Kd.R_drew)); exact HO167.out⟩, ⟨by (with_reducible repeat (first | apply Kd.R_alloc | apply Kd.R_drewN | apply Kd.R_drew)); exact HO170.out⟩, ⟨by (with_reducible repeat (first | refine blk_drewN ?_ _ | refine blk_drew ?_ | refine blk_alloc ?_ _)); exact BK161.out⟩, ⟨by (with_reducible repeat (first | refine blk_drewN ?_ _ | refine blk_drew ?_ | refine blk_alloc ?_ _)); exact BK162.out⟩, ⟨by (with_reducible repeat (first | refine blk_drewN ?_ _ | refine blk_drew ?_ | refine blk_alloc ?_ _)); exact BK163.out⟩, ⟨by (with_reducible repeat (first | refine blk_drewN ?_ _ | refine blk_drew ?_ | refine blk_alloc ?_ _)); exact BK172.out⟩, ⟨belowNow⟩⟩
  ·replace c27 := Bool.eq_false_iff.mpr c27
   subst c27
   have H1 : (impl_DoDesk.j0 k false t173 t174 t177 t180 a1_0 a1_1 a1_2 a1_3 a1_4 t164 t165 t168 t171) = some (r1, r2, r3, r4, r5, r6) := by rw [if_neg (show ¬ (false = true) by decide)] at H; exact H
   clear H
   have H := H1
   clear H1
   as_aux_lemma =>
    have H' := Aside0.mk H
    clear H
    have hnb49 := NB161_162.out
    have hnc49 := NB162_161.out
    have hnb50 := NB161_163.out
    have hnc50 := NB163_161.out
    have hnb51 := NB161_172.out
    have hnc51 := NB172_161.out
    have hcz52_0 := cz_ BK161.out 0 rfl
    have hcz52_1 := cz_ BK161.out 1 rfl
    have hcz52_2 := cz_ BK161.out 2 rfl
    have hcz52_3 := cz_ BK161.out 3 rfl
    have hfz52_0 := blk_frozen BK161.out 0
    have hfz52_1 := blk_frozen BK161.out 1
    have hfz52_2 := blk_frozen BK161.out 2
    have hfz52_3 := blk_frozen BK161.out 3
    go_wp2_with (first | ((with_reducible refine gate_callee (f := 12) rfl ?_); refine goesL_ (some 22) rfl rfl Try.func12 (by kernel_rfl) rfl #[.agg #[.int .i64 t173, .slice Ao23 t174.length co23, .slice Ao24 t177.length co24, .int .i64 t180]] rfl (by (try simp only [List.map_toArray, List.map_cons, List.map_nil]); first | done | rfl | (simp only [List.length_drop, List.length_take]; rfl)) ?_; (with_reducible refine (impl_DeskOk.calls k t173 _ _ t174 _ _ t177 t180 false _ ?side1 ?side2 ?side3 ?side4 A26.out).mono ?_); (case side1 => repeat (first | exact (Kd.R_reads' HO176.out).2.2 | (with_reducible refine Kd.C_alloc ?_ _) | (with_reducible refine Kd.C_drewN ?_ _) | (with_reducible refine Kd.C_drew ?_))); (case side2 => exact (Kd.R_reads' HO176.out).2.1); (case side3 => repeat (first | exact (Kd.R_reads' HO179.out).2.2 | (with_reducible refine Kd.C_alloc ?_ _) | (with_reducible refine Kd.C_drewN ?_ _) | (with_reducible refine Kd.C_drew ?_))); (case side4 => exact (Kd.R_reads' HO179.out).2.1); rintro e w53 ⟨rfl, hb⟩; refine ⟨_, rfl, ?_⟩; have n0_ := Aside0.mk (Kd.R_below (by (with_reducible repeat (first | apply Kd.R_alloc | apply Kd.R_drewN | apply Kd.R_drew)); exact HO167.out) hb); have n1_ := Aside0.mk (Kd.R_below (by (with_reducible repeat (first | apply Kd.R_alloc | apply Kd.R_drewN | apply Kd.R_drew)); exact HO170.out) hb); have n2_ := Aside0.mk (Kd.R_below (by (with_reducible repeat (first | apply Kd.R_alloc | apply Kd.R_drewN | apply Kd.R_drew)); exact HO176.out) hb); have n3_ := Aside0.mk (Kd.R_below (by (with_reducible repeat (first | apply Kd.R_alloc | apply Kd.R_drewN | apply Kd.R_drew)); exact HO179.out) hb); have n4_ := Aside0.mk (blkStep (g := gb161) hb); have n5_ := Aside0.mk (blkStep (g := gb162) hb); have n6_ := Aside0.mk (blkStep (g := gb163) hb); have n7_ := Aside0.mk (blkStep (g := gb172) hb); have n8_ := Aside0.mk (below_step belowNow hb); clear HO167; clear HO170; clear HO176; clear HO179; clear BK161; clear BK162; clear BK163; clear BK172; clear HB; have HO167 := n0_; have HO170 := n1_; have HO176 := n2_; have HO179 := n3_; have BK161 := n4_; have BK162 := n5_; have BK163 := n6_; have BK172 := n7_; have HB := n8_; clear n0_ n1_ n2_ n3_ n4_ n5_ n6_ n7_ n8_; (try clear hb); (try clear hb2); (try clear hk); (try clear hi)))
    go_meet
    case rel => exact ⟨_, (false), (by first | rfl | (simp; done) | (simp [*]; done)), H', ⟨by first | omega | exact Nat.le_refl _⟩, ⟨by (with_reducible repeat (first | apply Kd.R_alloc | apply Kd.R_drewN | apply Kd.R_drew)); exact HO176.out⟩, ⟨by (with_reducible repeat (first | apply Kd.R_alloc | apply Kd.R_drewN | apply Kd.R_drew)); exact HO179.out⟩, ⟨by (with_reducible repeat (first | apply Kd.R_alloc | apply Kd.R_drewN | apply Kd.R_drew)); exact HO167.out⟩, ⟨by (with_reducible repeat (first | apply Kd.R_alloc | apply Kd.R_drewN | apply Kd.R_drew)); exact HO170.out⟩, ⟨by (with_reducible repeat (first | refine blk_drewN ?_ _ | refine blk_drew ?_ | refine blk_alloc ?_ _)); exact BK161.out⟩, ⟨by (with_reducible repeat (first | refine blk_drewN ?_ _ | refine blk_drew ?_ | refine blk_alloc ?_ _)); exact BK162.out⟩, ⟨by (with_reducible repeat (first | refine blk_drewN ?_ _ | refine blk_drew ?_ | refine blk_alloc ?_ _)); exact BK163.out⟩, ⟨by (with_reducible repeat (first | refine blk_drewN ?_ _ | refine blk_drew ?_ | refine blk_alloc ?_ _)); exact BK172.out⟩, ⟨belowNow⟩⟩
 case rest =>
  clear HC5
  try clear c1
  try clear c2
  try clear p2
  try clear c3
  try clear c4
  try clear c5
  try clear c9
  try clear c10
  try clear c12
  try clear c14
  try clear c15
  try clear c16
  try clear c18
  try clear c27
  try clear c29
  try clear c31
  try clear c32
  try clear c33
  try clear c36
  try clear c37
  try clear c40
  try clear c41
  try clear c42
  try clear c45
  try clear c46
  try clear c48
  try clear c49
  try clear c50
  try clear c51
  try clear hcz11_0
  try clear hcz11_1
  try clear hcz11_2
  try clear hcz11_3
  try clear hcz17_0
  try clear hcz17_1
  try clear hcz17_2
  try clear hcz17_3
  try clear hcz20_0
  try clear hcz20_1
  try clear hcz20_2
  try clear hcz20_3
  try clear hcz22_0
  try clear hcz22_1
  try clear hcz22_2
  try clear hcz22_3
  try clear hcz34_0
  try clear hcz34_1
  try clear hcz34_2
  try clear hcz34_3
  try clear hcz38_0
  try clear hcz38_1
  try clear hcz38_2
  try clear hcz38_3
  try clear hcz38_4
  try clear hcz39_0
  try clear hcz39_1
  try clear hcz39_2
  try clear hcz39_3
  try clear hcz43_0
  try clear hcz43_1
  try clear hcz43_2
  try clear hcz43_3
  try clear hcz47_0
  try clear hcz47_1
  try clear hcz47_2
  try clear hcz47_3
  try clear hcz47_4
  try clear hcz48_0
  try clear hcz48_1
  try clear hcz48_2
  try clear hcz48_3
  try clear hcz52_0
  try clear hcz52_1
  try clear hcz52_2
  try clear hcz52_3
  try clear hfz11_0
  try clear hfz11_1
  try clear hfz11_2
  try clear hfz11_3
  try clear hfz17_0
  try clear hfz17_1
  try clear hfz17_2
  try clear hfz17_3
  try clear hfz20_0
  try clear hfz20_1
  try clear hfz20_2
  try clear hfz20_3
  try clear hfz22_0
  try clear hfz22_1
  try clear hfz22_2
  try clear hfz22_3
  try clear hfz34_0
  try clear hfz34_1
  try clear hfz34_2
  try clear hfz34_3
  try clear hfz38_0
  try clear hfz38_1
  try clear hfz38_2
  try clear hfz38_3
  try clear hfz38_4
  try clear hfz39_0
  try clear hfz39_1
  try clear hfz39_2
  try clear hfz39_3
  try clear hfz43_0
  try clear hfz43_1
  try clear hfz43_2
  try clear hfz43_3
  try clear hfz47_0
  try clear hfz47_1
  try clear hfz47_2
  try clear hfz47_3
  try clear hfz47_4
  try clear hfz48_0
  try clear hfz48_1
  try clear hfz48_2
  try clear hfz48_3
  try clear hfz52_0
  try clear hfz52_1
  try clear hfz52_2
  try clear hfz52_3
  obtain ⟨kq, x9_4, rfl, HA, HJ4, HO_162001, HO_162002, HO_173001, HO_173002, BK161, BK162, BK163, BK172, HB⟩ := hcut
  cases kq with
  | zero => exact absurd HA.out (by simp [impl_DoDesk.j0])
  | succ kj4 =>
   have H := HA.out
   clear HA
   simp only [impl_DoDesk.j0] at H
   replace H := Option.bind_eq_some_iff.mp H
   obtain ⟨t184, A540, H⟩ := H
   replace H : (if a1_0 = 1 then (if x9_4 = true then ((impl_in.f a1_2 0 1000000000).bind fun t185 => (if t185 = true then ((impl_skillOk.f a1_3).bind fun t186 => (if t186 = true then ((impl_in.f a1_4 0 9).bind fun t187 => (if t187 = true then (if t184 < 0 then ((impl_DoDesk_3.f t174 a1_0 a1_1 a1_2 a1_3 a1_4).bind fun t188 => (impl_DoDesk.j1 kj4 (!t188) t184 t173 t174 t177 t180 a1_0 a1_1 a1_2 a1_3 a1_4 t164 t165 t168 t171)) else (impl_DoDesk.j1 kj4 false t184 t173 t174 t177 t180 a1_0 a1_1 a1_2 a1_3 a1_4 t164 t165 t168 t171)) else (impl_DoDesk.j1 kj4 false t184 t173 t174 t177 t180 a1_0 a1_1 a1_2 a1_3 a1_4 t164 t165 t168 t171))) else (impl_DoDesk.j1 kj4 false t184 t173 t174 t177 t180 a1_0 a1_1 a1_2 a1_3 a1_4 t164 t165 t168 t171))) else (impl_DoDesk.j1 kj4 false t184 t173 t174 t177 t180 a1_0 a1_1 a1_2 a1_3 a1_4 t164 t165 t168 t171))) else (impl_DoDesk.j1 kj4 false t184 t173 t174 t177 t180 a1_0 a1_1 a1_2 a1_3 a1_4 t164 t165 t168 t171)) else (if a1_0 = 4 then (if x9_4 = true then ((impl_in.f a1_3 0 255).bind fun t189 => (if t189 = true then (impl_DoDesk.j1 kj4 (a1_4 == 0) t184 t173 t174 t177 t180 a1_0 a1_1 a1_2 a1_3 a1_4 t164 t165 t168 t171) else (impl_DoDesk.j1 kj4 false t184 t173 t174 t177 t180 a1_0 a1_1 a1_2 a1_3 a1_4 t164 t165 t168 t171))) else (impl_DoDesk.j1 kj4 false t184 t173 t174 t177 t180 a1_0 a1_1 a1_2 a1_3 a1_4 t164 t165 t168 t171)) else (if x9_4 = true then (if a1_3 = 0 then (impl_DoDesk.j1 kj4 (a1_4 == 0) t184 t173 t174 t177 t180 a1_0 a1_1 a1_2 a1_3 a1_4 t164 t165 t168 t171) else (impl_DoDesk.j1 kj4 false t184 t173 t174 t177 t180 a1_0 a1_1 a1_2 a1_3 a1_4 t164 t165 t168 t171)) else (impl_DoDesk.j1 kj4 false t184 t173 t174 t177 t180 a1_0 a1_1 a1_2 a1_3 a1_4 t164 t165 t168 t171)))) = some (r1, r2, r3, r4, r5, r6) := H
   have A54 := Aside0.mk A540
   clear A540
   have HC55 := Aside0.mk H
   clear H
   have hnb56 := NB161_162.out
   have hnc56 := NB162_161.out
   have hnb57 := NB161_163.out
   have hnc57 := NB163_161.out
   have hnb58 := NB161_172.out
   have hnc58 := NB172_161.out
   have hcz59_0 := cz_ BK161.out 0 rfl
   have hcz59_1 := cz_ BK161.out 1 rfl
   have hcz59_2 := cz_ BK161.out 2 rfl
   have hcz59_3 := cz_ BK161.out 3 rfl
   have hfz59_0 := blk_frozen BK161.out 0
   have hfz59_1 := blk_frozen BK161.out 1
   have hfz59_2 := blk_frozen BK161.out 2
   have hfz59_3 := blk_frozen BK161.out 3
   have hnb60 := NB162_163.out
   have hnc60 := NB163_162.out
   have hnb61 := NB162_172.out
   have hnc61 := NB172_162.out
   have hcz62_0 := cz_ BK162.out 0 rfl
   have hcz62_1 := cz_ BK162.out 1 rfl
   have hcz62_2 := cz_ BK162.out 2 rfl
   have hcz62_3 := cz_ BK162.out 3 rfl
   have hcz62_4 := cz_ BK162.out 4 rfl
   have hfz62_0 := blk_frozen BK162.out 0
   have hfz62_1 := blk_frozen BK162.out 1
   have hfz62_2 := blk_frozen BK162.out 2
   have hfz62_3 := blk_frozen BK162.out 3
   have hfz62_4 := blk_frozen BK162.out 4
   go_upto_block 0 with (first | ((with_reducible refine gate_callee (f := 50) rfl ?_); refine goesL_ (some 38) rfl rfl Try.func50 (by kernel_rfl) rfl #[.slice Ao24 t177.length co24, .func (.func 51) #[] #[.pointer (some ⟨gb162, 0, none⟩)]] rfl (by (try simp only [List.map_toArray, List.map_cons, List.map_nil]); first | done | rfl | (simp only [List.length_drop, List.length_take]; rfl)) ?_; (with_reducible refine (impl_DoDesk_2.calls _ _ t177 a1_0 a1_1 a1_2 a1_3 a1_4 t184 _ ?side1 ?side2 A54.out).mono ?_); (case side1 => repeat (first | exact (Kd.R_reads' HO_162002.out).2.2 | (with_reducible refine Kd.C_alloc ?_ _) | (with_reducible refine Kd.C_drewN ?_ _) | (with_reducible refine Kd.C_drew ?_))); (case side2 => exact (Kd.R_reads' HO_162002.out).2.1); rintro e w63 ⟨rfl, hb⟩; refine ⟨_, rfl, ?_⟩; have n0_ := Aside0.mk (Kd.R_below (by (with_reducible repeat (first | apply Kd.R_alloc | apply Kd.R_drewN | apply Kd.R_drew)); exact HO_162001.out) hb); have n1_ := Aside0.mk (Kd.R_below (by (with_reducible repeat (first | apply Kd.R_alloc | apply Kd.R_drewN | apply Kd.R_drew)); exact HO_162002.out) hb); have n2_ := Aside0.mk (Kd.R_below (by (with_reducible repeat (first | apply Kd.R_alloc | apply Kd.R_drewN | apply Kd.R_drew)); exact HO_173001.out) hb); have n3_ := Aside0.mk (Kd.R_below (by (with_reducible repeat (first | apply Kd.R_alloc | apply Kd.R_drewN | apply Kd.R_drew)); exact HO_173002.out) hb); have n4_ := Aside0.mk (blkStep (g := gb161) hb); have n5_ := Aside0.mk (blkStep (g := gb162) hb); have n6_ := Aside0.mk (blkStep (g := gb163) hb); have n7_ := Aside0.mk (blkStep (g := gb172) hb); have n8_ := Aside0.mk (below_step belowNow hb); clear HO_162001; clear HO_162002; clear HO_173001; clear HO_173002; clear BK161; clear BK162; clear BK163; clear BK172; clear HB; have HO_162001 := n0_; have HO_162002 := n1_; have HO_173001 := n2_; have HO_173002 := n3_; have BK161 := n4_; have BK162 := n5_; have BK163 := n6_; have BK172 := n7_; have HB := n8_; clear n0_ n1_ n2_ n3_ n4_ n5_ n6_ n7_ n8_; (try clear hb); (try clear hb2); (try clear hk); (try clear hi); have hcz64_0 : w63.cell? ⟨gb162, 0, none⟩ = some (.int .i64 a1_0) := (blk_cell BK162.out 0).trans rfl; have hcz64_1 : w63.cell? ⟨gb162, 1, none⟩ = some (.int .i64 a1_1) := (blk_cell BK162.out 1).trans rfl; have hcz64_2 : w63.cell? ⟨gb162, 2, none⟩ = some (.int .i64 a1_2) := (blk_cell BK162.out 2).trans rfl; have hcz64_3 : w63.cell? ⟨gb162, 3, none⟩ = some (.int .i64 a1_3) := (blk_cell BK162.out 3).trans rfl; have hcz64_4 : w63.cell? ⟨gb162, 4, none⟩ = some (.int .i64 a1_4) := (blk_cell BK162.out 4).trans rfl; have hfz64_0 := blk_frozen BK162.out 0; have hfz64_1 := blk_frozen BK162.out 1; have hfz64_2 := blk_frozen BK162.out 2; have hfz64_3 := blk_frozen BK162.out 3; have hfz64_4 := blk_frozen BK162.out 4))
   (try simp only [Act.put, List.setIfInBounds_toArray, List.set_cons_zero, List.set_cons_succ])
   go_cut [9] (fun v9 wc => ∃ (kq : Nat) (x9_54 : Bool), v9 = .bool x9_54 ∧ Aside0 (impl_DoDesk.j1 kq x9_54 t184 t173 t174 t177 t180 a1_0 a1_1 a1_2 a1_3 a1_4 t164 t165 t168 t171 = some (r1, r2, r3, r4, r5, r6)) ∧ Aside0 (kq ≤ kj4) ∧ Aside0 (Kd.R k41 41 wc w.heap.size (fun k_ => some k_ ≠ ((.slice Ao18 t165.length co18) : Value).ownBlock) (.slice Ao23 t174.length co23) t174) ∧ Aside0 (Kd.R k70 70 wc w.heap.size (fun k_ => some k_ ≠ ((.slice Ao19 t168.length co19) : Value).ownBlock) (.slice Ao24 t177.length co24) t177) ∧ Aside0 (Kd.R k41 41 wc w.heap.size (fun k_ => some k_ ≠ ((.slice Ao23 t174.length co23) : Value).ownBlock) (.slice Ao18 t165.length co18) t165) ∧ Aside0 (Kd.R k70 70 wc w.heap.size (fun k_ => some k_ ≠ ((.slice Ao24 t177.length co24) : Value).ownBlock) (.slice Ao19 t168.length co19) t168) ∧ Aside0 (wc.heap[gb161]? = some (.cells #[.int .i64 t173, (.slice Ao23 t174.length co23), (.slice Ao24 t177.length co24), .int .i64 t180] 31 (0, 0))) ∧ Aside0 (wc.heap[gb162]? = some (.cells #[.int .i64 a1_0, .int .i64 a1_1, .int .i64 a1_2, .int .i64 a1_3, .int .i64 a1_4] 47 (0, 0))) ∧ Aside0 (wc.heap[gb163]? = some (.cells #[.int .i64 0, (.slice none 0 0), (.slice none 0 0), .int .i64 0] 31 (0, 0))) ∧ Aside0 (wc.heap[gb172]? = some (.cells #[.int .i64 t164, (.slice Ao18 t165.length co18), (.slice Ao19 t168.length co19), .int .i64 t171] 31 (0, 0))) ∧ Aside0 (Below w.heap.size w wc))
   case first =>
    have H := HC55.out
    clear HC55
    by_cases c65 : a1_0 = 1
    ·rw [if_pos c65] at H
     have c65b0 : (a1_0 == 1) = true := beq_iff_eq.mpr c65
     have c65b1 : (a1_0 != 1) = false := bne_eq_false_iff_eq.mpr c65
     clear c65
     (first | rw [c65b0] | (simp only [i64_w, i32_w]; rw [c65b0]) | (rw [c65b2]; try simp only [Bool.not_false, Bool.not_true]) | skip)
     by_cases c66 : x9_4 = true
     ·subst c66
      have H1 : ((impl_in.f a1_2 0 1000000000).bind fun t185 => (if t185 = true then ((impl_skillOk.f a1_3).bind fun t186 => (if t186 = true then ((impl_in.f a1_4 0 9).bind fun t187 => (if t187 = true then (if t184 < 0 then ((impl_DoDesk_3.f t174 a1_0 a1_1 a1_2 a1_3 a1_4).bind fun t188 => (impl_DoDesk.j1 kj4 (!t188) t184 t173 t174 t177 t180 a1_0 a1_1 a1_2 a1_3 a1_4 t164 t165 t168 t171)) else (impl_DoDesk.j1 kj4 false t184 t173 t174 t177 t180 a1_0 a1_1 a1_2 a1_3 a1_4 t164 t165 t168 t171)) else (impl_DoDesk.j1 kj4 false t184 t173 t174 t177 t180 a1_0 a1_1 a1_2 a1_3 a1_4 t164 t165 t168 t171))) else (impl_DoDesk.j1 kj4 false t184 t173 t174 t177 t180 a1_0 a1_1 a1_2 a1_3 a1_4 t164 t165 t168 t171))) else (impl_DoDesk.j1 kj4 false t184 t173 t174 t177 t180 a1_0 a1_1 a1_2 a1_3 a1_4 t164 t165 t168 t171))) = some (r1, r2, r3, r4, r5, r6) := by rw [if_pos rfl] at H; exact H
      clear H
      have H := H1
      clear H1
      replace H := Option.bind_eq_some_iff.mp H
      obtain ⟨t185, A670, H⟩ := H
      replace H : (if t185 = true then ((impl_skillOk.f a1_3).bind fun t186 => (if t186 = true then ((impl_in.f a1_4 0 9).bind fun t187 => (if t187 = true then (if t184 < 0 then ((impl_DoDesk_3.f t174 a1_0 a1_1 a1_2 a1_3 a1_4).bind fun t188 => (impl_DoDesk.j1 kj4 (!t188) t184 t173 t174 t177 t180 a1_0 a1_1 a1_2 a1_3 a1_4 t164 t165 t168 t171)) else (impl_DoDesk.j1 kj4 false t184 t173 t174 t177 t180 a1_0 a1_1 a1_2 a1_3 a1_4 t164 t165 t168 t171)) else (impl_DoDesk.j1 kj4 false t184 t173 t174 t177 t180 a1_0 a1_1 a1_2 a1_3 a1_4 t164 t165 t168 t171))) else (impl_DoDesk.j1 kj4 false t184 t173 t174 t177 t180 a1_0 a1_1 a1_2 a1_3 a1_4 t164 t165 t168 t171))) else (impl_DoDesk.j1 kj4 false t184 t173 t174 t177 t180 a1_0 a1_1 a1_2 a1_3 a1_4 t164 t165 t168 t171)) = some (r1, r2, r3, r4, r5, r6) := H
      have A67 := Aside0.mk A670
      clear A670
      by_cases c68 : t185 = true
      ·subst c68
       have H1 : ((impl_skillOk.f a1_3).bind fun t186 => (if t186 = true then ((impl_in.f a1_4 0 9).bind fun t187 => (if t187 = true then (if t184 < 0 then ((impl_DoDesk_3.f t174 a1_0 a1_1 a1_2 a1_3 a1_4).bind fun t188 => (impl_DoDesk.j1 kj4 (!t188) t184 t173 t174 t177 t180 a1_0 a1_1 a1_2 a1_3 a1_4 t164 t165 t168 t171)) else (impl_DoDesk.j1 kj4 false t184 t173 t174 t177 t180 a1_0 a1_1 a1_2 a1_3 a1_4 t164 t165 t168 t171)) else (impl_DoDesk.j1 kj4 false t184 t173 t174 t177 t180 a1_0 a1_1 a1_2 a1_3 a1_4 t164 t165 t168 t171))) else (impl_DoDesk.j1 kj4 false t184 t173 t174 t177 t180 a1_0 a1_1 a1_2 a1_3 a1_4 t164 t165 t168 t171))) = some (r1, r2, r3, r4, r5, r6) := by rw [if_pos rfl] at H; exact H
       clear H
       have H := H1
       clear H1
       replace H := Option.bind_eq_some_iff.mp H
       obtain ⟨t186, A690, H⟩ := H
       replace H : (if t186 = true then ((impl_in.f a1_4 0 9).bind fun t187 => (if t187 = true then (if t184 < 0 then ((impl_DoDesk_3.f t174 a1_0 a1_1 a1_2 a1_3 a1_4).bind fun t188 => (impl_DoDesk.j1 kj4 (!t188) t184 t173 t174 t177 t180 a1_0 a1_1 a1_2 a1_3 a1_4 t164 t165 t168 t171)) else (impl_DoDesk.j1 kj4 false t184 t173 t174 t177 t180 a1_0 a1_1 a1_2 a1_3 a1_4 t164 t165 t168 t171)) else (impl_DoDesk.j1 kj4 false t184 t173 t174 t177 t180 a1_0 a1_1 a1_2 a1_3 a1_4 t164 t165 t168 t171))) else (impl_DoDesk.j1 kj4 false t184 t173 t174 t177 t180 a1_0 a1_1 a1_2 a1_3 a1_4 t164 t165 t168 t171)) = some (r1, r2, r3, r4, r5, r6) := H
       have A69 := Aside0.mk A690
       clear A690
       by_cases c70 : t186 = true
       ·subst c70
        have H1 : ((impl_in.f a1_4 0 9).bind fun t187 => (if t187 = true then (if t184 < 0 then ((impl_DoDesk_3.f t174 a1_0 a1_1 a1_2 a1_3 a1_4).bind fun t188 => (impl_DoDesk.j1 kj4 (!t188) t184 t173 t174 t177 t180 a1_0 a1_1 a1_2 a1_3 a1_4 t164 t165 t168 t171)) else (impl_DoDesk.j1 kj4 false t184 t173 t174 t177 t180 a1_0 a1_1 a1_2 a1_3 a1_4 t164 t165 t168 t171)) else (impl_DoDesk.j1 kj4 false t184 t173 t174 t177 t180 a1_0 a1_1 a1_2 a1_3 a1_4 t164 t165 t168 t171))) = some (r1, r2, r3, r4, r5, r6) := by rw [if_pos rfl] at H; exact H
        clear H
        have H := H1
        clear H1
        replace H := Option.bind_eq_some_iff.mp H
        obtain ⟨t187, A710, H⟩ := H
        replace H : (if t187 = true then (if t184 < 0 then ((impl_DoDesk_3.f t174 a1_0 a1_1 a1_2 a1_3 a1_4).bind fun t188 => (impl_DoDesk.j1 kj4 (!t188) t184 t173 t174 t177 t180 a1_0 a1_1 a1_2 a1_3 a1_4 t164 t165 t168 t171)) else (impl_DoDesk.j1 kj4 false t184 t173 t174 t177 t180 a1_0 a1_1 a1_2 a1_3 a1_4 t164 t165 t168 t171)) else (impl_DoDesk.j1 kj4 false t184 t173 t174 t177 t180 a1_0 a1_1 a1_2 a1_3 a1_4 t164 t165 t168 t171)) = some (r1, r2, r3, r4, r5, r6) := H
        have A71 := Aside0.mk A710
        clear A710
        by_cases c72 : t187 = true
        ·subst c72
         have H1 : (if t184 < 0 then ((impl_DoDesk_3.f t174 a1_0 a1_1 a1_2 a1_3 a1_4).bind fun t188 => (impl_DoDesk.j1 kj4 (!t188) t184 t173 t174 t177 t180 a1_0 a1_1 a1_2 a1_3 a1_4 t164 t165 t168 t171)) else (impl_DoDesk.j1 kj4 false t184 t173 t174 t177 t180 a1_0 a1_1 a1_2 a1_3 a1_4 t164 t165 t168 t171)) = some (r1, r2, r3, r4, r5, r6) := by rw [if_pos rfl] at H; exact H
         clear H
         have H := H1
         clear H1
         by_cases c73 : t184 < 0
         ·rw [if_pos c73] at H
          have c73b0 : decide (t184 < 0) = true := decide_eq_true c73
          clear c73
          replace H := Option.bind_eq_some_iff.mp H
          obtain ⟨t188, A740, H⟩ := H
          replace H : (impl_DoDesk.j1 kj4 (!t188) t184 t173 t174 t177 t180 a1_0 a1_1 a1_2 a1_3 a1_4 t164 t165 t168 t171) = some (r1, r2, r3, r4, r5, r6) := H
          have A74 := Aside0.mk A740
          clear A740
          as_aux_lemma =>
           have H' := Aside0.mk H
           clear H
           have hnb75 := NB162_161.out
           have hnc75 := NB161_162.out
           have hnb76 := NB162_163.out
           have hnc76 := NB163_162.out
           have hnb77 := NB162_172.out
           have hnc77 := NB172_162.out
           have hcz78_0 := cz_ BK162.out 0 rfl
           have hcz78_1 := cz_ BK162.out 1 rfl
           have hcz78_2 := cz_ BK162.out 2 rfl
           have hcz78_3 := cz_ BK162.out 3 rfl
           have hcz78_4 := cz_ BK162.out 4 rfl
           have hfz78_0 := blk_frozen BK162.out 0
           have hfz78_1 := blk_frozen BK162.out 1
           have hfz78_2 := blk_frozen BK162.out 2
           have hfz78_3 := blk_frozen BK162.out 3
           have hfz78_4 := blk_frozen BK162.out 4
           go_wp2_with (first | (go_at_call 43; (with_reducible refine (impl_in.calls a1_2 0 1000000000 true _ A67.out).mono ?_); rintro e w' ⟨rfl, ⟨nd, rfl⟩⟩) | (go_at_call 44; (with_reducible refine (impl_skillOk.calls a1_3 true _ A69.out).mono ?_); rintro e w' ⟨rfl, ⟨nd, rfl⟩⟩) | (go_at_call 43; (with_reducible refine (impl_in.calls a1_4 0 9 true _ A71.out).mono ?_); rintro e w' ⟨rfl, ⟨nd, rfl⟩⟩; have hnb79 := NB161_163.out; have hnc79 := NB163_161.out; have hnb80 := NB161_172.out; have hnc80 := NB172_161.out; have hcz81_0 : w63.cell? ⟨gb161, 0, none⟩ = some (.int .i64 t173) := (blk_cell BK161.out 0).trans rfl; have hcz81_1 : w63.cell? ⟨gb161, 1, none⟩ = some (.slice Ao23 t174.length co23) := (blk_cell BK161.out 1).trans rfl; have hcz81_2 : w63.cell? ⟨gb161, 2, none⟩ = some (.slice Ao24 t177.length co24) := (blk_cell BK161.out 2).trans rfl; have hcz81_3 : w63.cell? ⟨gb161, 3, none⟩ = some (.int .i64 t180) := (blk_cell BK161.out 3).trans rfl; have hfz81_0 := blk_frozen BK161.out 0; have hfz81_1 := blk_frozen BK161.out 1; have hfz81_2 := blk_frozen BK161.out 2; have hfz81_3 := blk_frozen BK161.out 3) | (go_at_call 52; (with_reducible refine (impl_DoDesk_3.calls _ _ t174 a1_0 a1_1 a1_2 a1_3 a1_4 t188 _ ?side1 ?side2 A74.out).mono ?_); (case side1 => repeat (first | exact (Kd.R_reads' HO_162001.out).2.2 | (with_reducible refine Kd.C_alloc ?_ _) | (with_reducible refine Kd.C_drewN ?_ _) | (with_reducible refine Kd.C_drew ?_))); (case side2 => exact (Kd.R_reads' HO_162001.out).2.1); rintro e w82 ⟨rfl, hb⟩; have n0_ := Aside0.mk (Kd.R_below (by (with_reducible repeat (first | apply Kd.R_alloc | apply Kd.R_drewN | apply Kd.R_drew)); exact HO_162001.out) hb); have n1_ := Aside0.mk (Kd.R_below (by (with_reducible repeat (first | apply Kd.R_alloc | apply Kd.R_drewN | apply Kd.R_drew)); exact HO_162002.out) hb); have n2_ := Aside0.mk (Kd.R_below (by (with_reducible repeat (first | apply Kd.R_alloc | apply Kd.R_drewN | apply Kd.R_drew)); exact HO_173001.out) hb); have n3_ := Aside0.mk (Kd.R_below (by (with_reducible repeat (first | apply Kd.R_alloc | apply Kd.R_drewN | apply Kd.R_drew)); exact HO_173002.out) hb); have n4_ := Aside0.mk (blk_below (blk_drewN BK161.out _) hb); have n5_ := Aside0.mk (blk_below (blk_drewN BK162.out _) hb); have n6_ := Aside0.mk (blk_below (blk_drewN BK163.out _) hb); have n7_ := Aside0.mk (blk_below (blk_drewN BK172.out _) hb); have n8_ := Aside0.mk (below_step belowNow hb); clear HO_162001; clear HO_162002; clear HO_173001; clear HO_173002; clear BK161; clear BK162; clear BK163; clear BK172; clear HB; have HO_162001 := n0_; have HO_162002 := n1_; have HO_173001 := n2_; have HO_173002 := n3_; have BK161 := n4_; have BK162 := n5_; have BK163 := n6_; have BK172 := n7_; have HB := n8_; clear n0_ n1_ n2_ n3_ n4_ n5_ n6_ n7_ n8_; (try clear hb); (try clear hb2); (try clear hk); (try clear hi)))
           go_meet
           case rel => exact ⟨_, (!t188), (by first | rfl | (simp; done) | (simp [*]; done)), H', ⟨by have := HJ4.out; first | omega | exact Nat.le_refl _⟩, ⟨by (with_reducible repeat (first | apply Kd.R_alloc | apply Kd.R_drewN | apply Kd.R_drew)); exact HO_162001.out⟩, ⟨by (with_reducible repeat (first | apply Kd.R_alloc | apply Kd.R_drewN | apply Kd.R_drew)); exact HO_162002.out⟩, ⟨by (with_reducible repeat (first | apply Kd.R_alloc | apply Kd.R_drewN | apply Kd.R_drew)); exact HO_173001.out⟩, ⟨by (with_reducible repeat (first | apply Kd.R_alloc | apply Kd.R_drewN | apply Kd.R_drew)); exact HO_173002.out⟩, ⟨by (with_reducible repeat (first | refine blk_drewN ?_ _ | refine blk_drew ?_ | refine blk_alloc ?_ _)); exact BK161.out⟩, ⟨by (with_reducible repeat (first | refine blk_drewN ?_ _ | refine blk_drew ?_ | refine blk_alloc ?_ _)); exact BK162.out⟩, ⟨by (with_reducible repeat (first | refine blk_drewN ?_ _ | refine blk_drew ?_ | refine blk_alloc ?_ _)); exact BK163.out⟩, ⟨by (with_reducible repeat (first | refine blk_drewN ?_ _ | refine blk_drew ?_ | refine blk_alloc ?_ _)); exact BK172.out⟩, ⟨belowNow⟩⟩
         ·rw [if_neg c73] at H
          have c73b0 : decide (t184 < 0) = false := decide_eq_false c73
          clear c73
          as_aux_lemma =>
           have H' := Aside0.mk H
           clear H
           have hnb83 := NB162_161.out
           have hnc83 := NB161_162.out
           have hnb84 := NB162_163.out
           have hnc84 := NB163_162.out
           have hnb85 := NB162_172.out
           have hnc85 := NB172_162.out
           have hcz86_0 := cz_ BK162.out 0 rfl
           have hcz86_1 := cz_ BK162.out 1 rfl
           have hcz86_2 := cz_ BK162.out 2 rfl
           have hcz86_3 := cz_ BK162.out 3 rfl
           have hcz86_4 := cz_ BK162.out 4 rfl
           have hfz86_0 := blk_frozen BK162.out 0
           have hfz86_1 := blk_frozen BK162.out 1
           have hfz86_2 := blk_frozen BK162.out 2
           have hfz86_3 := blk_frozen BK162.out 3
           have hfz86_4 := blk_frozen BK162.out 4
           go_wp2_with (first | (go_at_call 43; (with_reducible refine (impl_in.calls a1_2 0 1000000000 true _ A67.out).mono ?_); rintro e w' ⟨rfl, ⟨nd, rfl⟩⟩) | (go_at_call 44; (with_reducible refine (impl_skillOk.calls a1_3 true _ A69.out).mono ?_); rintro e w' ⟨rfl, ⟨nd, rfl⟩⟩) | (go_at_call 43; (with_reducible refine (impl_in.calls a1_4 0 9 true _ A71.out).mono ?_); rintro e w' ⟨rfl, ⟨nd, rfl⟩⟩))
           go_meet
           case rel => exact ⟨_, (false), (by first | rfl | (simp; done) | (simp [*]; done)), H', ⟨by have := HJ4.out; first | omega | exact Nat.le_refl _⟩, ⟨by (with_reducible repeat (first | apply Kd.R_alloc | apply Kd.R_drewN | apply Kd.R_drew)); exact HO_162001.out⟩, ⟨by (with_reducible repeat (first | apply Kd.R_alloc | apply Kd.R_drewN | apply Kd.R_drew)); exact HO_162002.out⟩, ⟨by (with_reducible repeat (first | apply Kd.R_alloc | apply Kd.R_drewN | apply Kd.R_drew)); exact HO_173001.out⟩, ⟨by (with_reducible repeat (first | apply Kd.R_alloc | apply Kd.R_drewN | apply Kd.R_drew)); exact HO_173002.out⟩, ⟨by (with_reducible repeat (first | refine blk_drewN ?_ _ | refine blk_drew ?_ | refine blk_alloc ?_ _)); exact BK161.out⟩, ⟨by (with_reducible repeat (first | refine blk_drewN ?_ _ | refine blk_drew ?_ | refine blk_alloc ?_ _)); exact BK162.out⟩, ⟨by (with_reducible repeat (first | refine blk_drewN ?_ _ | refine blk_drew ?_ | refine blk_alloc ?_ _)); exact BK163.out⟩, ⟨by (with_reducible repeat (first | refine blk_drewN ?_ _ | refine blk_drew ?_ | refine blk_alloc ?_ _)); exact BK172.out⟩, ⟨belowNow⟩⟩
        ·replace c72 := Bool.eq_false_iff.mpr c72
         subst c72
         have H1 : (impl_DoDesk.j1 kj4 false t184 t173 t174 t177 t180 a1_0 a1_1 a1_2 a1_3 a1_4 t164 t165 t168 t171) = some (r1, r2, r3, r4, r5, r6) := by rw [if_neg (show ¬ (false = true) by decide)] at H; exact H
         clear H
         have H := H1
         clear H1
         as_aux_lemma =>
          have H' := Aside0.mk H
          clear H
          have hnb87 := NB162_161.out
          have hnc87 := NB161_162.out
          have hnb88 := NB162_163.out
          have hnc88 := NB163_162.out
          have hnb89 := NB162_172.out
          have hnc89 := NB172_162.out
          have hcz90_0 := cz_ BK162.out 0 rfl
          have hcz90_1 := cz_ BK162.out 1 rfl
          have hcz90_2 := cz_ BK162.out 2 rfl
          have hcz90_3 := cz_ BK162.out 3 rfl
          have hcz90_4 := cz_ BK162.out 4 rfl
          have hfz90_0 := blk_frozen BK162.out 0
          have hfz90_1 := blk_frozen BK162.out 1
          have hfz90_2 := blk_frozen BK162.out 2
          have hfz90_3 := blk_frozen BK162.out 3
          have hfz90_4 := blk_frozen BK162.out 4
          go_wp2_with (first | (go_at_call 43; (with_reducible refine (impl_in.calls a1_2 0 1000000000 true _ A67.out).mono ?_); rintro e w' ⟨rfl, ⟨nd, rfl⟩⟩) | (go_at_call 44; (with_reducible refine (impl_skillOk.calls a1_3 true _ A69.out).mono ?_); rintro e w' ⟨rfl, ⟨nd, rfl⟩⟩) | (go_at_call 43; (with_reducible refine (impl_in.calls a1_4 0 9 false _ A71.out).mono ?_); rintro e w' ⟨rfl, ⟨nd, rfl⟩⟩))
          go_meet
          case rel => exact ⟨_, (false), (by first | rfl | (simp; done) | (simp [*]; done)), H', ⟨by have := HJ4.out; first | omega | exact Nat.le_refl _⟩, ⟨by (with_reducible repeat (first | apply Kd.R_alloc | apply Kd.R_drewN | apply Kd.R_drew)); exact HO_162001.out⟩, ⟨by (with_reducible repeat (first | apply Kd.R_alloc | apply Kd.R_drewN | apply Kd.R_drew)); exact HO_162002.out⟩, ⟨by (with_reducible repeat (first | apply Kd.R_alloc | apply Kd.R_drewN | apply Kd.R_drew)); exact HO_173001.out⟩, ⟨by (with_reducible repeat (first | apply Kd.R_alloc | apply Kd.R_drewN | apply Kd.R_drew)); exact HO_173002.out⟩, ⟨by (with_reducible repeat (first | refine blk_drewN ?_ _ | refine blk_drew ?_ | refine blk_alloc ?_ _)); exact BK161.out⟩, ⟨by (with_reducible repeat (first | refine blk_drewN ?_ _ | refine blk_drew ?_ | refine blk_alloc ?_ _)); exact BK162.out⟩, ⟨by (with_reducible repeat (first | refine blk_drewN ?_ _ | refine blk_drew ?_ | refine blk_alloc ?_ _)); exact BK163.out⟩, ⟨by (with_reducible repeat (first | refine blk_drewN ?_ _ | refine blk_drew ?_ | refine blk_alloc ?_ _)); exact BK172.out⟩, ⟨belowNow⟩⟩
       ·replace c70 := Bool.eq_false_iff.mpr c70
        subst c70
        have H1 : (impl_DoDesk.j1 kj4 false t184 t173 t174 t177 t180 a1_0 a1_1 a1_2 a1_3 a1_4 t164 t165 t168 t171) = some (r1, r2, r3, r4, r5, r6) := by rw [if_neg (show ¬ (false = true) by decide)] at H; exact H
        clear H
        have H := H1
        clear H1
        as_aux_lemma =>
         have H' := Aside0.mk H
         clear H
         have hnb91 := NB162_161.out
         have hnc91 := NB161_162.out
         have hnb92 := NB162_163.out
         have hnc92 := NB163_162.out
         have hnb93 := NB162_172.out
         have hnc93 := NB172_162.out
         have hcz94_0 := cz_ BK162.out 0 rfl
         have hcz94_1 := cz_ BK162.out 1 rfl
         have hcz94_2 := cz_ BK162.out 2 rfl
         have hcz94_3 := cz_ BK162.out 3 rfl
         have hcz94_4 := cz_ BK162.out 4 rfl
         have hfz94_0 := blk_frozen BK162.out 0
         have hfz94_1 := blk_frozen BK162.out 1
         have hfz94_2 := blk_frozen BK162.out 2
         have hfz94_3 := blk_frozen BK162.out 3
         have hfz94_4 := blk_frozen BK162.out 4
         go_wp2_with (first | (go_at_call 43; (with_reducible refine (impl_in.calls a1_2 0 1000000000 true _ A67.out).mono ?_); rintro e w' ⟨rfl, ⟨nd, rfl⟩⟩) | (go_at_call 44; (with_reducible refine (impl_skillOk.calls a1_3 false _ A69.out).mono ?_); rintro e w' ⟨rfl, ⟨nd, rfl⟩⟩))
         go_meet
         case rel => exact ⟨_, (false), (by first | rfl | (simp; done) | (simp [*]; done)), H', ⟨by have := HJ4.out; first | omega | exact Nat.le_refl _⟩, ⟨by (with_reducible repeat (first | apply Kd.R_alloc | apply Kd.R_drewN | apply Kd.R_drew)); exact HO_162001.out⟩, ⟨by (with_reducible repeat (first | apply Kd.R_alloc | apply Kd.R_drewN | apply Kd.R_drew)); exact HO_162002.out⟩, ⟨by (with_reducible repeat (first | apply Kd.R_alloc | apply Kd.R_drewN | apply Kd.R_drew)); exact HO_173001.out⟩, ⟨by (with_reducible repeat (first | apply Kd.R_alloc | apply Kd.R_drewN | apply Kd.R_drew)); exact HO_173002.out⟩, ⟨by (with_reducible repeat (first | refine blk_drewN ?_ _ | refine blk_drew ?_ | refine blk_alloc ?_ _)); exact BK161.out⟩, ⟨by (with_reducible repeat (first | refine blk_drewN ?_ _ | refine blk_drew ?_ | refine blk_alloc ?_ _)); exact BK162.out⟩, ⟨by (with_reducible repeat (first | refine blk_drewN ?_ _ | refine blk_drew ?_ | refine blk_alloc ?_ _)); exact BK163.out⟩, ⟨by (with_reducible repeat (first | refine blk_drewN ?_ _ | refine blk_drew ?_ | refine blk_alloc ?_ _)); exact BK172.out⟩, ⟨belowNow⟩⟩
      ·replace c68 := Bool.eq_false_iff.mpr c68
       subst c68
       have H1 : (impl_DoDesk.j1 kj4 false t184 t173 t174 t177 t180 a1_0 a1_1 a1_2 a1_3 a1_4 t164 t165 t168 t171) = some (r1, r2, r3, r4, r5, r6) := by rw [if_neg (show ¬ (false = true) by decide)] at H; exact H
       clear H
       have H := H1
       clear H1
       as_aux_lemma =>
        have H' := Aside0.mk H
        clear H
        have hnb95 := NB162_161.out
        have hnc95 := NB161_162.out
        have hnb96 := NB162_163.out
        have hnc96 := NB163_162.out
        have hnb97 := NB162_172.out
        have hnc97 := NB172_162.out
        have hcz98_0 := cz_ BK162.out 0 rfl
        have hcz98_1 := cz_ BK162.out 1 rfl
        have hcz98_2 := cz_ BK162.out 2 rfl
        have hcz98_3 := cz_ BK162.out 3 rfl
        have hcz98_4 := cz_ BK162.out 4 rfl
        have hfz98_0 := blk_frozen BK162.out 0
        have hfz98_1 := blk_frozen BK162.out 1
        have hfz98_2 := blk_frozen BK162.out 2
        have hfz98_3 := blk_frozen BK162.out 3
        have hfz98_4 := blk_frozen BK162.out 4
        go_wp2_with (first | (go_at_call 43; (with_reducible refine (impl_in.calls a1_2 0 1000000000 false _ A67.out).mono ?_); rintro e w' ⟨rfl, ⟨nd, rfl⟩⟩))
        go_meet
        case rel => exact ⟨_, (false), (by first | rfl | (simp; done) | (simp [*]; done)), H', ⟨by have := HJ4.out; first | omega | exact Nat.le_refl _⟩, ⟨by (with_reducible repeat (first | apply Kd.R_alloc | apply Kd.R_drewN | apply Kd.R_drew)); exact HO_162001.out⟩, ⟨by (with_reducible repeat (first | apply Kd.R_alloc | apply Kd.R_drewN | apply Kd.R_drew)); exact HO_162002.out⟩, ⟨by (with_reducible repeat (first | apply Kd.R_alloc | apply Kd.R_drewN | apply Kd.R_drew)); exact HO_173001.out⟩, ⟨by (with_reducible repeat (first | apply Kd.R_alloc | apply Kd.R_drewN | apply Kd.R_drew)); exact HO_173002.out⟩, ⟨by (with_reducible repeat (first | refine blk_drewN ?_ _ | refine blk_drew ?_ | refine blk_alloc ?_ _)); exact BK161.out⟩, ⟨by (with_reducible repeat (first | refine blk_drewN ?_ _ | refine blk_drew ?_ | refine blk_alloc ?_ _)); exact BK162.out⟩, ⟨by (with_reducible repeat (first | refine blk_drewN ?_ _ | refine blk_drew ?_ | refine blk_alloc ?_ _)); exact BK163.out⟩, ⟨by (with_reducible repeat (first | refine blk_drewN ?_ _ | refine blk_drew ?_ | refine blk_alloc ?_ _)); exact BK172.out⟩, ⟨belowNow⟩⟩
     ·replace c66 := Bool.eq_false_iff.mpr c66
      subst c66
      have H1 : (impl_DoDesk.j1 kj4 false t184 t173 t174 t177 t180 a1_0 a1_1 a1_2 a1_3 a1_4 t164 t165 t168 t171) = some (r1, r2, r3, r4, r5, r6) := by rw [if_neg (show ¬ (false = true) by decide)] at H; exact H
      clear H
      have H := H1
      clear H1
      as_aux_lemma =>
       have H' := Aside0.mk H
       clear H
       go_wp2
       go_meet
       case rel => exact ⟨_, (false), (by first | rfl | (simp; done) | (simp [*]; done)), H', ⟨by have := HJ4.out; first | omega | exact Nat.le_refl _⟩, ⟨by (with_reducible repeat (first | apply Kd.R_alloc | apply Kd.R_drewN | apply Kd.R_drew)); exact HO_162001.out⟩, ⟨by (with_reducible repeat (first | apply Kd.R_alloc | apply Kd.R_drewN | apply Kd.R_drew)); exact HO_162002.out⟩, ⟨by (with_reducible repeat (first | apply Kd.R_alloc | apply Kd.R_drewN | apply Kd.R_drew)); exact HO_173001.out⟩, ⟨by (with_reducible repeat (first | apply Kd.R_alloc | apply Kd.R_drewN | apply Kd.R_drew)); exact HO_173002.out⟩, ⟨by (with_reducible repeat (first | refine blk_drewN ?_ _ | refine blk_drew ?_ | refine blk_alloc ?_ _)); exact BK161.out⟩, ⟨by (with_reducible repeat (first | refine blk_drewN ?_ _ | refine blk_drew ?_ | refine blk_alloc ?_ _)); exact BK162.out⟩, ⟨by (with_reducible repeat (first | refine blk_drewN ?_ _ | refine blk_drew ?_ | refine blk_alloc ?_ _)); exact BK163.out⟩, ⟨by (with_reducible repeat (first | refine blk_drewN ?_ _ | refine blk_drew ?_ | refine blk_alloc ?_ _)); exact BK172.out⟩, ⟨belowNow⟩⟩
    ·rw [if_neg c65] at H
     have c65b0 : (a1_0 == 1) = false := beq_eq_false_iff_ne.mpr c65
     have c65b1 : (a1_0 != 1) = true := bne_iff_ne.mpr c65
     (first | rw [c65b0] | (simp only [i64_w, i32_w]; rw [c65b0]) | (rw [c65b2]; try simp only [Bool.not_false, Bool.not_true]) | skip)
     by_cases c99 : a1_0 = 4
     ·rw [if_pos c99] at H
      have c99b0 : (a1_0 == 4) = true := beq_iff_eq.mpr c99
      have c99b1 : (a1_0 != 4) = false := bne_eq_false_iff_eq.mpr c99
      clear c99
      by_cases c100 : x9_4 = true
      ·subst c100
       have H1 : ((impl_in.f a1_3 0 255).bind fun t189 => (if t189 = true then (impl_DoDesk.j1 kj4 (a1_4 == 0) t184 t173 t174 t177 t180 a1_0 a1_1 a1_2 a1_3 a1_4 t164 t165 t168 t171) else (impl_DoDesk.j1 kj4 false t184 t173 t174 t177 t180 a1_0 a1_1 a1_2 a1_3 a1_4 t164 t165 t168 t171))) = some (r1, r2, r3, r4, r5, r6) := by rw [if_pos rfl] at H; exact H
       clear H
       have H := H1
       clear H1
       replace H := Option.bind_eq_some_iff.mp H
       obtain ⟨t189, A1010, H⟩ := H
       replace H : (if t189 = true then (impl_DoDesk.j1 kj4 (a1_4 == 0) t184 t173 t174 t177 t180 a1_0 a1_1 a1_2 a1_3 a1_4 t164 t165 t168 t171) else (impl_DoDesk.j1 kj4 false t184 t173 t174 t177 t180 a1_0 a1_1 a1_2 a1_3 a1_4 t164 t165 t168 t171)) = some (r1, r2, r3, r4, r5, r6) := H
       have A101 := Aside0.mk A1010
       clear A1010
       by_cases c102 : t189 = true
       ·subst c102
        have H1 : (impl_DoDesk.j1 kj4 (a1_4 == 0) t184 t173 t174 t177 t180 a1_0 a1_1 a1_2 a1_3 a1_4 t164 t165 t168 t171) = some (r1, r2, r3, r4, r5, r6) := by rw [if_pos rfl] at H; exact H
        clear H
        have H := H1
        clear H1
        as_aux_lemma =>
         have H' := Aside0.mk H
         clear H
         have hnb103 := NB162_161.out
         have hnc103 := NB161_162.out
         have hnb104 := NB162_163.out
         have hnc104 := NB163_162.out
         have hnb105 := NB162_172.out
         have hnc105 := NB172_162.out
         have hcz106_0 := cz_ BK162.out 0 rfl
         have hcz106_1 := cz_ BK162.out 1 rfl
         have hcz106_2 := cz_ BK162.out 2 rfl
         have hcz106_3 := cz_ BK162.out 3 rfl
         have hcz106_4 := cz_ BK162.out 4 rfl
         have hfz106_0 := blk_frozen BK162.out 0
         have hfz106_1 := blk_frozen BK162.out 1
         have hfz106_2 := blk_frozen BK162.out 2
         have hfz106_3 := blk_frozen BK162.out 3
         have hfz106_4 := blk_frozen BK162.out 4
         go_wp2_with (first | (go_at_call 43; (with_reducible refine (impl_in.calls a1_3 0 255 true _ A101.out).mono ?_); rintro e w' ⟨rfl, ⟨nd, rfl⟩⟩))
         go_meet
         case rel => exact ⟨_, ((a1_4 == 0)), (by first | rfl | (simp; done) | (simp [*]; done)), H', ⟨by have := HJ4.out; first | omega | exact Nat.le_refl _⟩, ⟨by (with_reducible repeat (first | apply Kd.R_alloc | apply Kd.R_drewN | apply Kd.R_drew)); exact HO_162001.out⟩, ⟨by (with_reducible repeat (first | apply Kd.R_alloc | apply Kd.R_drewN | apply Kd.R_drew)); exact HO_162002.out⟩, ⟨by (with_reducible repeat (first | apply Kd.R_alloc | apply Kd.R_drewN | apply Kd.R_drew)); exact HO_173001.out⟩, ⟨by (with_reducible repeat (first | apply Kd.R_alloc | apply Kd.R_drewN | apply Kd.R_drew)); exact HO_173002.out⟩, ⟨by (with_reducible repeat (first | refine blk_drewN ?_ _ | refine blk_drew ?_ | refine blk_alloc ?_ _)); exact BK161.out⟩, ⟨by (with_reducible repeat (first | refine blk_drewN ?_ _ | refine blk_drew ?_ | refine blk_alloc ?_ _)); exact BK162.out⟩, ⟨by (with_reducible repeat (first | refine blk_drewN ?_ _ | refine blk_drew ?_ | refine blk_alloc ?_ _)); exact BK163.out⟩, ⟨by (with_reducible repeat (first | refine blk_drewN ?_ _ | refine blk_drew ?_ | refine blk_alloc ?_ _)); exact BK172.out⟩, ⟨belowNow⟩⟩
       ·replace c102 := Bool.eq_false_iff.mpr c102
        subst c102
        have H1 : (impl_DoDesk.j1 kj4 false t184 t173 t174 t177 t180 a1_0 a1_1 a1_2 a1_3 a1_4 t164 t165 t168 t171) = some (r1, r2, r3, r4, r5, r6) := by rw [if_neg (show ¬ (false = true) by decide)] at H; exact H
        clear H
        have H := H1
        clear H1
        as_aux_lemma =>
         have H' := Aside0.mk H
         clear H
         have hnb107 := NB162_161.out
         have hnc107 := NB161_162.out
         have hnb108 := NB162_163.out
         have hnc108 := NB163_162.out
         have hnb109 := NB162_172.out
         have hnc109 := NB172_162.out
         have hcz110_0 := cz_ BK162.out 0 rfl
         have hcz110_1 := cz_ BK162.out 1 rfl
         have hcz110_2 := cz_ BK162.out 2 rfl
         have hcz110_3 := cz_ BK162.out 3 rfl
         have hcz110_4 := cz_ BK162.out 4 rfl
         have hfz110_0 := blk_frozen BK162.out 0
         have hfz110_1 := blk_frozen BK162.out 1
         have hfz110_2 := blk_frozen BK162.out 2
         have hfz110_3 := blk_frozen BK162.out 3
         have hfz110_4 := blk_frozen BK162.out 4
         go_wp2_with (first | (go_at_call 43; (with_reducible refine (impl_in.calls a1_3 0 255 false _ A101.out).mono ?_); rintro e w' ⟨rfl, ⟨nd, rfl⟩⟩))
         go_meet
         case rel => exact ⟨_, (false), (by first | rfl | (simp; done) | (simp [*]; done)), H', ⟨by have := HJ4.out; first | omega | exact Nat.le_refl _⟩, ⟨by (with_reducible repeat (first | apply Kd.R_alloc | apply Kd.R_drewN | apply Kd.R_drew)); exact HO_162001.out⟩, ⟨by (with_reducible repeat (first | apply Kd.R_alloc | apply Kd.R_drewN | apply Kd.R_drew)); exact HO_162002.out⟩, ⟨by (with_reducible repeat (first | apply Kd.R_alloc | apply Kd.R_drewN | apply Kd.R_drew)); exact HO_173001.out⟩, ⟨by (with_reducible repeat (first | apply Kd.R_alloc | apply Kd.R_drewN | apply Kd.R_drew)); exact HO_173002.out⟩, ⟨by (with_reducible repeat (first | refine blk_drewN ?_ _ | refine blk_drew ?_ | refine blk_alloc ?_ _)); exact BK161.out⟩, ⟨by (with_reducible repeat (first | refine blk_drewN ?_ _ | refine blk_drew ?_ | refine blk_alloc ?_ _)); exact BK162.out⟩, ⟨by (with_reducible repeat (first | refine blk_drewN ?_ _ | refine blk_drew ?_ | refine blk_alloc ?_ _)); exact BK163.out⟩, ⟨by (with_reducible repeat (first | refine blk_drewN ?_ _ | refine blk_drew ?_ | refine blk_alloc ?_ _)); exact BK172.out⟩, ⟨belowNow⟩⟩
      ·replace c100 := Bool.eq_false_iff.mpr c100
       subst c100
       have H1 : (impl_DoDesk.j1 kj4 false t184 t173 t174 t177 t180 a1_0 a1_1 a1_2 a1_3 a1_4 t164 t165 t168 t171) = some (r1, r2, r3, r4, r5, r6) := by rw [if_neg (show ¬ (false = true) by decide)] at H; exact H
       clear H
       have H := H1
       clear H1
       as_aux_lemma =>
        have H' := Aside0.mk H
        clear H
        go_wp2
        go_meet
        case rel => exact ⟨_, (false), (by first | rfl | (simp; done) | (simp [*]; done)), H', ⟨by have := HJ4.out; first | omega | exact Nat.le_refl _⟩, ⟨by (with_reducible repeat (first | apply Kd.R_alloc | apply Kd.R_drewN | apply Kd.R_drew)); exact HO_162001.out⟩, ⟨by (with_reducible repeat (first | apply Kd.R_alloc | apply Kd.R_drewN | apply Kd.R_drew)); exact HO_162002.out⟩, ⟨by (with_reducible repeat (first | apply Kd.R_alloc | apply Kd.R_drewN | apply Kd.R_drew)); exact HO_173001.out⟩, ⟨by (with_reducible repeat (first | apply Kd.R_alloc | apply Kd.R_drewN | apply Kd.R_drew)); exact HO_173002.out⟩, ⟨by (with_reducible repeat (first | refine blk_drewN ?_ _ | refine blk_drew ?_ | refine blk_alloc ?_ _)); exact BK161.out⟩, ⟨by (with_reducible repeat (first | refine blk_drewN ?_ _ | refine blk_drew ?_ | refine blk_alloc ?_ _)); exact BK162.out⟩, ⟨by (with_reducible repeat (first | refine blk_drewN ?_ _ | refine blk_drew ?_ | refine blk_alloc ?_ _)); exact BK163.out⟩, ⟨by (with_reducible repeat (first | refine blk_drewN ?_ _ | refine blk_drew ?_ | refine blk_alloc ?_ _)); exact BK172.out⟩, ⟨belowNow⟩⟩
     ·rw [if_neg c99] at H
      have c99b0 : (a1_0 == 4) = false := beq_eq_false_iff_ne.mpr c99
      have c99b1 : (a1_0 != 4) = true := bne_iff_ne.mpr c99
      by_cases c111 : x9_4 = true
      ·subst c111
       have H1 : (if a1_3 = 0 then (impl_DoDesk.j1 kj4 (a1_4 == 0) t184 t173 t174 t177 t180 a1_0 a1_1 a1_2 a1_3 a1_4 t164 t165 t168 t171) else (impl_DoDesk.j1 kj4 false t184 t173 t174 t177 t180 a1_0 a1_1 a1_2 a1_3 a1_4 t164 t165 t168 t171)) = some (r1, r2, r3, r4, r5, r6) := by rw [if_pos rfl] at H; exact H
       clear H
       have H := H1
       clear H1
       by_cases c112 : a1_3 = 0
       ·rw [if_pos c112] at H
        have c112b0 : (a1_3 == 0) = true := beq_iff_eq.mpr c112
        have c112b1 : (a1_3 != 0) = false := bne_eq_false_iff_eq.mpr c112
        clear c112
        as_aux_lemma =>
         have H' := Aside0.mk H
         clear H
         have hnb113 := NB162_161.out
         have hnc113 := NB161_162.out
         have hnb114 := NB162_163.out
         have hnc114 := NB163_162.out
         have hnb115 := NB162_172.out
         have hnc115 := NB172_162.out
         have hcz116_0 := cz_ BK162.out 0 rfl
         have hcz116_1 := cz_ BK162.out 1 rfl
         have hcz116_2 := cz_ BK162.out 2 rfl
         have hcz116_3 := cz_ BK162.out 3 rfl
         have hcz116_4 := cz_ BK162.out 4 rfl
         have hfz116_0 := blk_frozen BK162.out 0
         have hfz116_1 := blk_frozen BK162.out 1
         have hfz116_2 := blk_frozen BK162.out 2
         have hfz116_3 := blk_frozen BK162.out 3
         have hfz116_4 := blk_frozen BK162.out 4
         go_wp2
         go_meet
         case rel => exact ⟨_, ((a1_4 == 0)), (by first | rfl | (simp; done) | (simp [*]; done)), H', ⟨by have := HJ4.out; first | omega | exact Nat.le_refl _⟩, ⟨by (with_reducible repeat (first | apply Kd.R_alloc | apply Kd.R_drewN | apply Kd.R_drew)); exact HO_162001.out⟩, ⟨by (with_reducible repeat (first | apply Kd.R_alloc | apply Kd.R_drewN | apply Kd.R_drew)); exact HO_162002.out⟩, ⟨by (with_reducible repeat (first | apply Kd.R_alloc | apply Kd.R_drewN | apply Kd.R_drew)); exact HO_173001.out⟩, ⟨by (with_reducible repeat (first | apply Kd.R_alloc | apply Kd.R_drewN | apply Kd.R_drew)); exact HO_173002.out⟩, ⟨by (with_reducible repeat (first | refine blk_drewN ?_ _ | refine blk_drew ?_ | refine blk_alloc ?_ _)); exact BK161.out⟩, ⟨by (with_reducible repeat (first | refine blk_drewN ?_ _ | refine blk_drew ?_ | refine blk_alloc ?_ _)); exact BK162.out⟩, ⟨by (with_reducible repeat (first | refine blk_drewN ?_ _ | refine blk_drew ?_ | refine blk_alloc ?_ _)); exact BK163.out⟩, ⟨by (with_reducible repeat (first | refine blk_drewN ?_ _ | refine blk_drew ?_ | refine blk_alloc ?_ _)); exact BK172.out⟩, ⟨belowNow⟩⟩
       ·rw [if_neg c112] at H
        have c112b0 : (a1_3 == 0) = false := beq_eq_false_iff_ne.mpr c112
        have c112b1 : (a1_3 != 0) = true := bne_iff_ne.mpr c112
        as_aux_lemma =>
         have H' := Aside0.mk H
         clear H
         have hnb117 := NB162_161.out
         have hnc117 := NB161_162.out
         have hnb118 := NB162_163.out
         have hnc118 := NB163_162.out
         have hnb119 := NB162_172.out
         have hnc119 := NB172_162.out
         have hcz120_0 := cz_ BK162.out 0 rfl
         have hcz120_1 := cz_ BK162.out 1 rfl
         have hcz120_2 := cz_ BK162.out 2 rfl
         have hcz120_3 := cz_ BK162.out 3 rfl
         have hcz120_4 := cz_ BK162.out 4 rfl
         have hfz120_0 := blk_frozen BK162.out 0
         have hfz120_1 := blk_frozen BK162.out 1
         have hfz120_2 := blk_frozen BK162.out 2
         have hfz120_3 := blk_frozen BK162.out 3
         have hfz120_4 := blk_frozen BK162.out 4
         go_wp2
         go_meet
         case rel => exact ⟨_, (false), (by first | rfl | (simp; done) | (simp [*]; done)), H', ⟨by have := HJ4.out; first | omega | exact Nat.le_refl _⟩, ⟨by (with_reducible repeat (first | apply Kd.R_alloc | apply Kd.R_drewN | apply Kd.R_drew)); exact HO_162001.out⟩, ⟨by (with_reducible repeat (first | apply Kd.R_alloc | apply Kd.R_drewN | apply Kd.R_drew)); exact HO_162002.out⟩, ⟨by (with_reducible repeat (first | apply Kd.R_alloc | apply Kd.R_drewN | apply Kd.R_drew)); exact HO_173001.out⟩, ⟨by (with_reducible repeat (first | apply Kd.R_alloc | apply Kd.R_drewN | apply Kd.R_drew)); exact HO_173002.out⟩, ⟨by (with_reducible repeat (first | refine blk_drewN ?_ _ | refine blk_drew ?_ | refine blk_alloc ?_ _)); exact BK161.out⟩, ⟨by (with_reducible repeat (first | refine blk_drewN ?_ _ | refine blk_drew ?_ | refine blk_alloc ?_ _)); exact BK162.out⟩, ⟨by (with_reducible repeat (first | refine blk_drewN ?_ _ | refine blk_drew ?_ | refine blk_alloc ?_ _)); exact BK163.out⟩, ⟨by (with_reducible repeat (first | refine blk_drewN ?_ _ | refine blk_drew ?_ | refine blk_alloc ?_ _)); exact BK172.out⟩, ⟨belowNow⟩⟩
      ·replace c111 := Bool.eq_false_iff.mpr c111
       subst c111
       have H1 : (impl_DoDesk.j1 kj4 false t184 t173 t174 t177 t180 a1_0 a1_1 a1_2 a1_3 a1_4 t164 t165 t168 t171) = some (r1, r2, r3, r4, r5, r6) := by rw [if_neg (show ¬ (false = true) by decide)] at H; exact H
       clear H
       have H := H1
       clear H1
       as_aux_lemma =>
        have H' := Aside0.mk H
        clear H
        go_wp2
        go_meet
        case rel => exact ⟨_, (false), (by first | rfl | (simp; done) | (simp [*]; done)), H', ⟨by have := HJ4.out; first | omega | exact Nat.le_refl _⟩, ⟨by (with_reducible repeat (first | apply Kd.R_alloc | apply Kd.R_drewN | apply Kd.R_drew)); exact HO_162001.out⟩, ⟨by (with_reducible repeat (first | apply Kd.R_alloc | apply Kd.R_drewN | apply Kd.R_drew)); exact HO_162002.out⟩, ⟨by (with_reducible repeat (first | apply Kd.R_alloc | apply Kd.R_drewN | apply Kd.R_drew)); exact HO_173001.out⟩, ⟨by (with_reducible repeat (first | apply Kd.R_alloc | apply Kd.R_drewN | apply Kd.R_drew)); exact HO_173002.out⟩, ⟨by (with_reducible repeat (first | refine blk_drewN ?_ _ | refine blk_drew ?_ | refine blk_alloc ?_ _)); exact BK161.out⟩, ⟨by (with_reducible repeat (first | refine blk_drewN ?_ _ | refine blk_drew ?_ | refine blk_alloc ?_ _)); exact BK162.out⟩, ⟨by (with_reducible repeat (first | refine blk_drewN ?_ _ | refine blk_drew ?_ | refine blk_alloc ?_ _)); exact BK163.out⟩, ⟨by (with_reducible repeat (first | refine blk_drewN ?_ _ | refine blk_drew ?_ | refine blk_alloc ?_ _)); exact BK172.out⟩, ⟨belowNow⟩⟩
   case rest =>
    clear HC55
    try clear c1
    try clear c2
    try clear p2
    try clear c3
    try clear c4
    try clear c5
    try clear c6
    try clear c7
    try clear c8
    try clear c9
    try clear c10
    try clear c11
    try clear c12
    try clear c14
    try clear c15
    try clear c16
    try clear c18
    try clear c27
    try clear c29
    try clear c31
    try clear c32
    try clear c33
    try clear c36
    try clear c37
    try clear c40
    try clear c41
    try clear c42
    try clear c45
    try clear c46
    try clear c48
    try clear c49
    try clear c50
    try clear c51
    try clear c56
    try clear c57
    try clear c58
    try clear c60
    try clear c61
    try clear c65
    try clear c65b0
    try clear c65b1
    try clear c66
    try clear c68
    try clear c70
    try clear c72
    try clear c73
    try clear c73b0
    try clear c75
    try clear c76
    try clear c77
    try clear c79
    try clear c80
    try clear c83
    try clear c84
    try clear c85
    try clear c87
    try clear c88
    try clear c89
    try clear c91
    try clear c92
    try clear c93
    try clear c95
    try clear c96
    try clear c97
    try clear c99
    try clear c99b0
    try clear c99b1
    try clear c100
    try clear c102
    try clear c103
    try clear c104
    try clear c105
    try clear c107
    try clear c108
    try clear c109
    try clear c111
    try clear c112
    try clear c112b0
    try clear c112b1
    try clear c113
    try clear c114
    try clear c115
    try clear c117
    try clear c118
    try clear c119
    try clear hcz106_0
    try clear hcz106_1
    try clear hcz106_2
    try clear hcz106_3
    try clear hcz106_4
    try clear hcz110_0
    try clear hcz110_1
    try clear hcz110_2
    try clear hcz110_3
    try clear hcz110_4
    try clear hcz116_0
    try clear hcz116_1
    try clear hcz116_2
    try clear hcz116_3
    try clear hcz116_4
    try clear hcz11_0
    try clear hcz11_1
    try clear hcz11_2
    try clear hcz11_3
    try clear hcz120_0
    try clear hcz120_1
    try clear hcz120_2
    try clear hcz120_3
    try clear hcz120_4
    try clear hcz17_0
    try clear hcz17_1
    try clear hcz17_2
    try clear hcz17_3
    try clear hcz20_0
    try clear hcz20_1
    try clear hcz20_2
    try clear hcz20_3
    try clear hcz22_0
    try clear hcz22_1
    try clear hcz22_2
    try clear hcz22_3
    try clear hcz34_0
    try clear hcz34_1
    try clear hcz34_2
    try clear hcz34_3
    try clear hcz38_0
    try clear hcz38_1
    try clear hcz38_2
    try clear hcz38_3
    try clear hcz38_4
    try clear hcz39_0
    try clear hcz39_1
    try clear hcz39_2
    try clear hcz39_3
    try clear hcz43_0
    try clear hcz43_1
    try clear hcz43_2
    try clear hcz43_3
    try clear hcz47_0
    try clear hcz47_1
    try clear hcz47_2
    try clear hcz47_3
    try clear hcz47_4
    try clear hcz48_0
    try clear hcz48_1
    try clear hcz48_2
    try clear hcz48_3
    try clear hcz52_0
    try clear hcz52_1
    try clear hcz52_2
    try clear hcz52_3
    try clear hcz59_0
    try clear hcz59_1
    try clear hcz59_2
    try clear hcz59_3
    try clear hcz62_0
    try clear hcz62_1
    try clear hcz62_2
    try clear hcz62_3
    try clear hcz62_4
    try clear hcz64_0
    try clear hcz64_1
    try clear hcz64_2
    try clear hcz64_3
    try clear hcz64_4
    try clear hcz78_0
    try clear hcz78_1
    try clear hcz78_2
    try clear hcz78_3
    try clear hcz78_4
    try clear hcz81_0
    try clear hcz81_1
    try clear hcz81_2
    try clear hcz81_3
    try clear hcz86_0
    try clear hcz86_1
    try clear hcz86_2
    try clear hcz86_3
    try clear hcz86_4
    try clear hcz90_0
    try clear hcz90_1
    try clear hcz90_2
    try clear hcz90_3
    try clear hcz90_4
    try clear hcz94_0
    try clear hcz94_1
    try clear hcz94_2
    try clear hcz94_3
    try clear hcz94_4
    try clear hcz98_0
    try clear hcz98_1
    try clear hcz98_2
    try clear hcz98_3
    try clear hcz98_4
    try clear hfz106_0
    try clear hfz106_1
    try clear hfz106_2
    try clear hfz106_3
    try clear hfz106_4
    try clear hfz110_0
    try clear hfz110_1
    try clear hfz110_2
    try clear hfz110_3
    try clear hfz110_4
    try clear hfz116_0
    try clear hfz116_1
    try clear hfz116_2
    try clear hfz116_3
    try clear hfz116_4
    try clear hfz11_0
    try clear hfz11_1
    try clear hfz11_2
    try clear hfz11_3
    try clear hfz120_0
    try clear hfz120_1
    try clear hfz120_2
    try clear hfz120_3
    try clear hfz120_4
    try clear hfz17_0
    try clear hfz17_1
    try clear hfz17_2
    try clear hfz17_3
    try clear hfz20_0
    try clear hfz20_1
    try clear hfz20_2
    try clear hfz20_3
    try clear hfz22_0
    try clear hfz22_1
    try clear hfz22_2
    try clear hfz22_3
    try clear hfz34_0
    try clear hfz34_1
    try clear hfz34_2
    try clear hfz34_3
    try clear hfz38_0
    try clear hfz38_1
    try clear hfz38_2
    try clear hfz38_3
    try clear hfz38_4
    try clear hfz39_0
    try clear hfz39_1
    try clear hfz39_2
    try clear hfz39_3
    try clear hfz43_0
    try clear hfz43_1
    try clear hfz43_2
    try clear hfz43_3
    try clear hfz47_0
    try clear hfz47_1
    try clear hfz47_2
    try clear hfz47_3
    try clear hfz47_4
    try clear hfz48_0
    try clear hfz48_1
    try clear hfz48_2
    try clear hfz48_3
    try clear hfz52_0
    try clear hfz52_1
    try clear hfz52_2
    try clear hfz52_3
    try clear hfz59_0
    try clear hfz59_1
    try clear hfz59_2
    try clear hfz59_3
    try clear hfz62_0
    try clear hfz62_1
    try clear hfz62_2
    try clear hfz62_3
    try clear hfz62_4
    try clear hfz64_0
    try clear hfz64_1
    try clear hfz64_2
    try clear hfz64_3
    try clear hfz64_4
    try clear hfz78_0
    try clear hfz78_1
    try clear hfz78_2
    try clear hfz78_3
    try clear hfz78_4
    try clear hfz81_0
    try clear hfz81_1
    try clear hfz81_2
    try clear hfz81_3
    try clear hfz86_0
    try clear hfz86_1
    try clear hfz86_2
    try clear hfz86_3
    try clear hfz86_4
    try clear hfz90_0
    try clear hfz90_1
    try clear hfz90_2
    try clear hfz90_3
    try clear hfz90_4
    try clear hfz94_0
    try clear hfz94_1
    try clear hfz94_2
    try clear hfz94_3
    try clear hfz94_4
    try clear hfz98_0
    try clear hfz98_1
    try clear hfz98_2
    try clear hfz98_3
    try clear hfz98_4
    try clear p2
    obtain ⟨kq, x9_54, rfl, HA, HJ54, HO_162001, HO_162002, HO_173001, HO_173002, BK161, BK162, BK163, BK172, HB⟩ := hcut
    cases kq with
    | zero => exact absurd HA.out (by simp [impl_DoDesk.j1])
    | succ kj54 =>
     have H := HA.out
     clear HA
     simp only [impl_DoDesk.j1] at H
     by_cases c121 : x9_54 = true
     ·subst c121
      have H1 : (if a1_0 = 1 then (if t177.length < 4398046511104 then (impl_DoDesk.j2 kj54 a1_1 t174 (t177 ++ [(⟨a1_2, a1_3, a1_4, a1_1⟩ : S70)]) t180 t164 t165 t168 t171) else (none)) else (if a1_0 = 2 then (if t184 < 0 then (some (t164, t165, t168, t171, ([] : List Int), 3)) else (if 0 ≤ t184 then (if t184 ≤ (t177.length : Int) then (if 0 ≤ (wrap64 (t184 + 1)) then (if (wrap64 (t184 + 1)) ≤ (t177.length : Int) then (impl_DoDesk.j2 kj54 a1_1 t174 (t177.eraseIdx (t184 : Int).toNat) t180 t164 t165 t168 t171) else (none)) else (none)) else (none)) else (none))) else ((impl_in.f a1_2 0 (wrap64 ((t174.length : Int) - 1))).bind fun t204 => (if t204 = true then (if 0 ≤ a1_2 then (if a1_2 < (t174.length : Int) then (if a1_0 = 4 then (impl_DoDesk.j2 kj54 a1_1 (t174.set (a1_2 : Int).toNat (⟨a1_3, (rd_T41 t174 a1_2).f1, (rd_T41 t174 a1_2).f2⟩ : S41)) t177 t180 t164 t165 t168 t171) else (if ((rd_T41 t174 a1_2).f1) < 0 then (some (t164, t165, t168, t171, ([] : List Int), 3)) else ((some (t174.set (a1_2 : Int).toNat (⟨(rd_T41 t174 a1_2).f0, (-1), (rd_T41 t174 a1_2).f2⟩ : S41) : List (S41))).bind fun y206 => (impl_DoDesk.j2 kj54 a1_1 (y206.set (a1_2 : Int).toNat (⟨(rd_T41 y206 a1_2).f0, (rd_T41 y206 a1_2).f1, a1_1⟩ : S41)) t177 t180 t164 t165 t168 t171)))) else (none)) else (none)) else (some (t164, t165, t168, t171, ([] : List Int), 3)))))) = some (r1, r2, r3, r4, r5, r6) := by rw [if_pos rfl] at H; exact H
      clear H
      have H := H1
      clear H1
      have HC122 := Aside0.mk H
      clear H
      have hnb123 := NB162_161.out
      have hnc123 := NB161_162.out
      have hnb124 := NB162_163.out
      have hnc124 := NB163_162.out
      have hnb125 := NB162_172.out
      have hnc125 := NB172_162.out
      have hcz126_0 := cz_ BK162.out 0 rfl
      have hcz126_1 := cz_ BK162.out 1 rfl
      have hcz126_2 := cz_ BK162.out 2 rfl
      have hcz126_3 := cz_ BK162.out 3 rfl
      have hcz126_4 := cz_ BK162.out 4 rfl
      have hfz126_0 := blk_frozen BK162.out 0
      have hfz126_1 := blk_frozen BK162.out 1
      have hfz126_2 := blk_frozen BK162.out 2
      have hfz126_3 := blk_frozen BK162.out 3
      have hfz126_4 := blk_frozen BK162.out 4
      have hnb127 := NB161_163.out
      have hnc127 := NB163_161.out
      have hnb128 := NB161_172.out
      have hnc128 := NB172_161.out
      have hcz129_0 := cz_ BK161.out 0 rfl
      have hcz129_1 := cz_ BK161.out 1 rfl
      have hcz129_2 := cz_ BK161.out 2 rfl
      have hcz129_3 := cz_ BK161.out 3 rfl
      have hfz129_0 := blk_frozen BK161.out 0
      have hfz129_1 := blk_frozen BK161.out 1
      have hfz129_2 := blk_frozen BK161.out 2
      have hfz129_3 := blk_frozen BK161.out 3
      go_upto_block 1 with (first | ((with_reducible refine gate_store (t := 3) (p := 103) rfl ?_); refine store_event (t := 3) (p := 103) (v := ?vo_w130) (w1 := (wc.setCell ⟨gb161, 0, none⟩ (.int .i64 a1_1))) ?hg ?ho ?hn ?hr ?_; (case ho => rfl); (case hg => rfl); (case hn => rfl); (case hr => first | (go_simp; done) | (go_simp; rfl)); intro w130 hw; have n0_ : Aside0 (Kd.R k41 41 w130 w.heap.size (fun k_ => some k_ ≠ (.slice Ao18 t165.length co18 : Value).ownBlock) (.slice Ao23 t174.length co23) t174) := ⟨(by rw [hw]; exact (by (with_reducible repeat (first | apply Kd.R_alloc | apply Kd.R_drewN | apply Kd.R_drew)); exact Kd.R_mono (Kd.R_far (p := ⟨gb161, 0, none⟩) (Kd.R_types HO_162001.out BK161.out (by decide)) (fun _ hk => hk.2) (.int .i64 a1_1)) (fun _ hk => hk.1)))⟩; have n1_ : Aside0 (Kd.R k70 70 w130 w.heap.size (fun k_ => some k_ ≠ (.slice Ao19 t168.length co19 : Value).ownBlock) (.slice Ao24 t177.length co24) t177) := ⟨(by rw [hw]; exact (by (with_reducible repeat (first | apply Kd.R_alloc | apply Kd.R_drewN | apply Kd.R_drew)); exact Kd.R_mono (Kd.R_far (p := ⟨gb161, 0, none⟩) (Kd.R_types HO_162002.out BK161.out (by decide)) (fun _ hk => hk.2) (.int .i64 a1_1)) (fun _ hk => hk.1)))⟩; have n2_ : Aside0 (Kd.R k41 41 w130 w.heap.size (fun k_ => some k_ ≠ (.slice Ao23 t174.length co23 : Value).ownBlock) (.slice Ao18 t165.length co18) t165) := ⟨(by rw [hw]; exact (by (with_reducible repeat (first | apply Kd.R_alloc | apply Kd.R_drewN | apply Kd.R_drew)); exact Kd.R_mono (Kd.R_far (p := ⟨gb161, 0, none⟩) (Kd.R_types HO_173001.out BK161.out (by decide)) (fun _ hk => hk.2) (.int .i64 a1_1)) (fun _ hk => hk.1)))⟩; have n3_ : Aside0 (Kd.R k70 70 w130 w.heap.size (fun k_ => some k_ ≠ (.slice Ao24 t177.length co24 : Value).ownBlock) (.slice Ao19 t168.length co19) t168) := ⟨(by rw [hw]; exact (by (with_reducible repeat (first | apply Kd.R_alloc | apply Kd.R_drewN | apply Kd.R_drew)); exact Kd.R_mono (Kd.R_far (p := ⟨gb161, 0, none⟩) (Kd.R_types HO_173002.out BK161.out (by decide)) (fun _ hk => hk.2) (.int .i64 a1_1)) (fun _ hk => hk.1)))⟩; have n4_ : Aside0 (w130.heap[gb161]? = some (.cells #[.int .i64 a1_1, .slice Ao23 t174.length co23, .slice Ao24 t177.length co24, .int .i64 t180] 31 (0, 0))) := ⟨(by rw [hw]; exact (by (with_reducible repeat (first | refine blk_drewN ?_ _ | refine blk_drew ?_ | refine blk_alloc ?_ _)); refine blk_put (cs := #[.int .i64 t173, .slice Ao23 t174.length co23, .slice Ao24 t177.length co24, .int .i64 t180]) ?_ 0 _ rfl; (with_reducible repeat (first | refine blk_drewN ?_ _ | refine blk_drew ?_ | refine blk_alloc ?_ _)); exact BK161.out))⟩; have n5_ : Aside0 (w130.heap[gb162]? = some (.cells #[.int .i64 a1_0, .int .i64 a1_1, .int .i64 a1_2, .int .i64 a1_3, .int .i64 a1_4] 47 (0, 0))) := ⟨(by rw [hw]; exact (blkFars))⟩; have n6_ : Aside0 (w130.heap[gb163]? = some (.cells #[.int .i64 0, .slice none 0 0, .slice none 0 0, .int .i64 0] 31 (0, 0))) := ⟨(by rw [hw]; exact (blkFars))⟩; have n7_ : Aside0 (w130.heap[gb172]? = some (.cells #[.int .i64 t164, .slice Ao18 t165.length co18, .slice Ao19 t168.length co19, .int .i64 t171] 31 (0, 0))) := ⟨(by rw [hw]; exact (blkFars))⟩; have n8_ : Aside0 (Below w.heap.size w w130) := ⟨(by rw [hw]; exact belowNow)⟩; clear hw; clear HO_162001; clear HO_162002; clear HO_173001; clear HO_173002; clear BK161; clear BK162; clear BK163; clear BK172; clear HB; have HO_162001 := n0_; have HO_162002 := n1_; have HO_173001 := n2_; have HO_173002 := n3_; have BK161 := n4_; have BK162 := n5_; have BK163 := n6_; have BK172 := n7_; have HB := n8_; clear n0_ n1_ n2_ n3_ n4_ n5_ n6_ n7_ n8_; have hcz131_0 : w130.cell? ⟨gb162, 0, none⟩ = some (.int .i64 a1_0) := (blk_cell BK162.out 0).trans rfl; have hcz131_1 : w130.cell? ⟨gb162, 1, none⟩ = some (.int .i64 a1_1) := (blk_cell BK162.out 1).trans rfl; have hcz131_2 : w130.cell? ⟨gb162, 2, none⟩ = some (.int .i64 a1_2) := (blk_cell BK162.out 2).trans rfl; have hcz131_3 : w130.cell? ⟨gb162, 3, none⟩ = some (.int .i64 a1_3) := (blk_cell BK162.out 3).trans rfl; have hcz131_4 : w130.cell? ⟨gb162, 4, none⟩ = some (.int .i64 a1_4) := (blk_cell BK162.out 4).trans rfl; have hfz131_0 := blk_frozen BK162.out 0; have hfz131_1 := blk_frozen BK162.out 1; have hfz131_2 := blk_frozen BK162.out 2; have hfz131_3 := blk_frozen BK162.out 3; have hfz131_4 := blk_frozen BK162.out 4))
      (try simp only [Act.put, List.setIfInBounds_toArray, List.set_cons_zero, List.set_cons_succ])
      go_cut [] (fun wc => ∃ (kq : Nat) (x162001_121 : List (S41)) (x162002_121 : List (S70)) (x164000_121 : Int) (x164003_121 : Int) (x173001_121 : List (S41)) (u162001 : Value) (u162002 : Value) (u173001 : Value), Aside0 (impl_DoDesk.j2 kq a1_1 x162001_121 x162002_121 t180 t164 x173001_121 t168 t171 = some (r1, r2, r3, r4, r5, r6)) ∧ Aside0 (kq ≤ kj54) ∧ Aside0 (Kd.R k41 41 wc w.heap.size (fun k_ => some k_ ≠ (u173001 : Value).ownBlock) u162001 x162001_121) ∧ Aside0 (Kd.R k70 70 wc w.heap.size (fun k_ => some k_ ≠ ((.slice Ao19 t168.length co19) : Value).ownBlock) u162002 x162002_121) ∧ Aside0 (Kd.R k41 41 wc w.heap.size (fun k_ => some k_ ≠ (u162001 : Value).ownBlock) u173001 x173001_121) ∧ Aside0 (Kd.R k70 70 wc w.heap.size (fun k_ => some k_ ≠ (u162002 : Value).ownBlock) (.slice Ao19 t168.length co19) t168) ∧ Aside0 (wc.heap[gb161]? = some (.cells #[.int .i64 a1_1, u162001, u162002, .int .i64 t180] 31 (0, 0))) ∧ Aside0 (wc.heap[gb162]? = some (.cells #[.int .i64 a1_0, .int .i64 a1_1, .int .i64 a1_2, .int .i64 a1_3, .int .i64 a1_4] 47 (0, 0))) ∧ Aside0 (wc.heap[gb163]? = some (.cells #[.int .i64 x164000_121, (.slice none 0 0), (.slice none 0 0), .int .i64 x164003_121] 31 (0, 0))) ∧ Aside0 (wc.heap[gb172]? = some (.cells #[.int .i64 t164, u173001, (.slice Ao19 t168.length co19), .int .i64 t171] 31 (0, 0))) ∧ Aside0 (Below w.heap.size w wc))
      case first =>
       have H := HC122.out
       clear HC122
       by_cases c132 : a1_0 = 1
       ·rw [if_pos c132] at H
        have c132b0 : (a1_0 == 1) = true := beq_iff_eq.mpr c132
        have c132b1 : (a1_0 != 1) = false := bne_eq_false_iff_eq.mpr c132
        clear c132
        (first | rw [c132b0] | (simp only [i64_w, i32_w]; rw [c132b0]) | (rw [c132b2]; try simp only [Bool.not_false, Bool.not_true]) | skip)
        by_cases c133 : t177.length < 4398046511104
        ·rw [if_pos c133] at H
         have LMc133 := Aside0.mk c133
         clear c133
         obtain ⟨y190, hy190⟩ : ∃ y_ : List (S70), y_ = (t177 ++ [(⟨a1_2, a1_3, a1_4, a1_1⟩ : S70)]) := ⟨_, rfl⟩
         replace H : (impl_DoDesk.j2 kj54 a1_1 t174 y190 t180 t164 t165 t168 t171) = some (r1, r2, r3, r4, r5, r6) := by first | (rw [hy190]; with_reducible exact H) | (have H2_ := (Option.bind_some _ _).symm.trans H; rw [hy190]; with_reducible exact H2_) | (have H2_ := (Option.bind_some _ _).symm.trans H; with_reducible exact H2_) | with_reducible exact H | (rw [hy190]; exact H) | exact H
         have Ny190 := Aside0.mk hy190
         clear hy190
         as_aux_lemma =>
          have H' := Aside0.mk H
          clear H
          have hnb134 := NB161_162.out
          have hnc134 := NB162_161.out
          have hnb135 := NB161_163.out
          have hnc135 := NB163_161.out
          have hnb136 := NB161_172.out
          have hnc136 := NB172_161.out
          have hcz137_0 := cz_ BK161.out 0 rfl
          have hcz137_1 := cz_ BK161.out 1 rfl
          have hcz137_2 := cz_ BK161.out 2 rfl
          have hcz137_3 := cz_ BK161.out 3 rfl
          have hfz137_0 := blk_frozen BK161.out 0
          have hfz137_1 := blk_frozen BK161.out 1
          have hfz137_2 := blk_frozen BK161.out 2
          have hfz137_3 := blk_frozen BK161.out 3
          have hnb138 := NB162_163.out
          have hnc138 := NB163_162.out
          have hnb139 := NB162_172.out
          have hnc139 := NB172_162.out
          have hcz140_0 := cz_ BK162.out 0 rfl
          have hcz140_1 := cz_ BK162.out 1 rfl
          have hcz140_2 := cz_ BK162.out 2 rfl
          have hcz140_3 := cz_ BK162.out 3 rfl
          have hcz140_4 := cz_ BK162.out 4 rfl
          have hfz140_0 := blk_frozen BK162.out 0
          have hfz140_1 := blk_frozen BK162.out 1
          have hfz140_2 := blk_frozen BK162.out 2
          have hfz140_3 := blk_frozen BK162.out 3
          have hfz140_4 := blk_frozen BK162.out 4
          go_wp2_with (first | ((with_reducible refine gate_builtin (b := .append) (xs := #[.tmp 153, .tmp 163]) rfl ?_); at_builtin; refine Kd.R_append k70 (w0 := w) w.heap.size rfl (.tmp 153) (.tmp 163) 29 70 (.agg #[(.int .i64 0), (.int .i64 0), (.int .i64 0), (.int .i64 0)]) 32 rfl Try.underlying29 info70 rfl (by decide) (by omega) (.slice Ao24 t177.length co24) t177 (⟨a1_2, a1_3, a1_4, a1_1⟩ : S70) [.int .i64 a1_2, .int .i64 a1_3, .int .i64 a1_4, .int .i64 a1_1] (fun k_ => some k_ ≠ (.slice Ao19 t168.length co19 : Value).ownBlock) (fun _ => False) rfl rfl ?aP (fun _ hk => hk.elim) ?aF ?aO ?aB ?aS ?aL ?_; (case aP => exact k70_mkM _ _ _ (⟨a1_2, a1_3, a1_4, a1_1⟩ : S70)); (case aB => exact belowNow); (case aF => exact (fun k_ hk => Kd.fresh' (Kd.R_lt (by (with_reducible repeat (first | apply Kd.R_alloc | apply Kd.R_drewN | apply Kd.R_drew)); exact HO_173002.out)) k_ hk)); (case aO => exact (by (with_reducible repeat (first | apply Kd.R_alloc | apply Kd.R_drewN | apply Kd.R_drew)); exact HO_162002.out)); (case aS => exact (below_size belowNow)); (case aL => have := LMc133.out; omega); intro v191 w141 ho hb hg hat; rw [← Ny190.out] at ho; have n0_ := Aside0.mk (Kd.R_over' (by (with_reducible repeat (first | apply Kd.R_alloc | apply Kd.R_drewN | apply Kd.R_drew)); exact HO_162001.out) (Kd.R_typed (by (with_reducible repeat (first | apply Kd.R_alloc | apply Kd.R_drewN | apply Kd.R_drew)); exact HO_162002.out)) (by decide) hg); have n1_ := Aside0.mk (Kd.R_over' (by (with_reducible repeat (first | apply Kd.R_alloc | apply Kd.R_drewN | apply Kd.R_drew)); exact HO_173001.out) (Kd.R_typed (by (with_reducible repeat (first | apply Kd.R_alloc | apply Kd.R_drewN | apply Kd.R_drew)); exact HO_162002.out)) (by decide) hg); have n2_ := Aside0.mk (Kd.R_after (ok := (fun _ => True)) (by (with_reducible repeat (first | apply Kd.R_alloc | apply Kd.R_drewN | apply Kd.R_drew)); exact Kd.R_mono HO_173002.out (fun _ hk => ⟨trivial, hk⟩)) hg hat); have n3_ := Aside0.mk (blk_grown (g := gb161) (o := .cells #[.int .i64 a1_1, .slice Ao23 t174.length co23, .slice Ao24 t177.length co24, .int .i64 t180] 31 (0, 0)) blkNow hg (Kd.R_ne HO_162002.out BK161.out (by decide))); have n4_ := Aside0.mk (blk_grown (g := gb162) (o := .cells #[.int .i64 a1_0, .int .i64 a1_1, .int .i64 a1_2, .int .i64 a1_3, .int .i64 a1_4] 47 (0, 0)) blkNow hg (Kd.R_ne HO_162002.out BK162.out (by decide))); have n5_ := Aside0.mk (blk_grown (g := gb163) (o := .cells #[.int .i64 0, .slice none 0 0, .slice none 0 0, .int .i64 0] 31 (0, 0)) blkNow hg (Kd.R_ne HO_162002.out BK163.out (by decide))); have n6_ := Aside0.mk (blk_grown (g := gb172) (o := .cells #[.int .i64 t164, .slice Ao18 t165.length co18, .slice Ao19 t168.length co19, .int .i64 t171] 31 (0, 0)) blkNow hg (Kd.R_ne HO_162002.out BK172.out (by decide))); have n7_ := Aside0.mk (hb); have n8_ := Aside0.mk (ho); clear HO_162001; clear HO_173001; clear HO_173002; clear BK161; clear BK162; clear BK163; clear BK172; clear HB; clear HO_162002; have HO_162001 := n0_; have HO_173001 := n1_; have HO_173002 := n2_; have BK161 := n3_; have BK162 := n4_; have BK163 := n5_; have BK172 := n6_; have HB := n7_; have HO192 := n8_; clear n0_ n1_ n2_ n3_ n4_ n5_ n6_ n7_ n8_; clear ho hb hg hat; obtain ⟨Ao142, co142, eo142⟩ := Kd.R_slice HO192.out; subst eo142; have hcz143_0 : w141.cell? ⟨gb161, 0, none⟩ = some (.int .i64 a1_1) := (blk_cell BK161.out 0).trans rfl; have hcz143_1 : w141.cell? ⟨gb161, 1, none⟩ = some (.slice Ao23 t174.length co23) := (blk_cell BK161.out 1).trans rfl; have hcz143_2 : w141.cell? ⟨gb161, 2, none⟩ = some (.slice Ao24 t177.length co24) := (blk_cell BK161.out 2).trans rfl; have hcz143_3 : w141.cell? ⟨gb161, 3, none⟩ = some (.int .i64 t180) := (blk_cell BK161.out 3).trans rfl; have hfz143_0 := blk_frozen BK161.out 0; have hfz143_1 := blk_frozen BK161.out 1; have hfz143_2 := blk_frozen BK161.out 2; have hfz143_3 := blk_frozen BK161.out 3) | ((with_reducible refine gate_store (t := 29) (p := 165) rfl ?_); refine store_event (t := 29) (p := 165) (v := ?vo_w144) (w1 := (w141.setCell ⟨gb161, 2, none⟩ (.slice Ao142 y190.length co142))) ?hg ?ho ?hn ?hr ?_; (case ho => rfl); (case hg => rfl); (case hn => rfl); (case hr => first | (go_simp; done) | (go_simp; rfl)); intro w144 hw; have n0_ : Aside0 (Kd.R k41 41 w144 w.heap.size (fun k_ => some k_ ≠ (.slice Ao18 t165.length co18 : Value).ownBlock) (.slice Ao23 t174.length co23) t174) := ⟨(by rw [hw]; exact (by (with_reducible repeat (first | apply Kd.R_alloc | apply Kd.R_drewN | apply Kd.R_drew)); exact Kd.R_mono (Kd.R_far (p := ⟨gb161, 2, none⟩) (Kd.R_types HO_162001.out BK161.out (by decide)) (fun _ hk => hk.2) (.slice Ao142 y190.length co142)) (fun _ hk => hk.1)))⟩; have n1_ : Aside0 (Kd.R k41 41 w144 w.heap.size (fun k_ => some k_ ≠ (.slice Ao23 t174.length co23 : Value).ownBlock) (.slice Ao18 t165.length co18) t165) := ⟨(by rw [hw]; exact (by (with_reducible repeat (first | apply Kd.R_alloc | apply Kd.R_drewN | apply Kd.R_drew)); exact Kd.R_mono (Kd.R_far (p := ⟨gb161, 2, none⟩) (Kd.R_types HO_173001.out BK161.out (by decide)) (fun _ hk => hk.2) (.slice Ao142 y190.length co142)) (fun _ hk => hk.1)))⟩; have n2_ : Aside0 (Kd.R k70 70 w144 w.heap.size (fun k_ => some k_ ≠ (.slice Ao142 y190.length co142 : Value).ownBlock) (.slice Ao19 t168.length co19) t168) := ⟨(by rw [hw]; exact (by (with_reducible repeat (first | apply Kd.R_alloc | apply Kd.R_drewN | apply Kd.R_drew)); exact Kd.R_mono (Kd.R_far (p := ⟨gb161, 2, none⟩) (Kd.R_types HO_173002.out BK161.out (by decide)) (fun _ hk => hk.2) (.slice Ao142 y190.length co142)) (fun _ hk => hk.1.2)))⟩; have n3_ : Aside0 (Kd.R k70 70 w144 w.heap.size (fun k_ => some k_ ≠ (.slice Ao19 t168.length co19 : Value).ownBlock) (.slice Ao142 y190.length co142) y190) := ⟨(by rw [hw]; exact (by (with_reducible repeat (first | apply Kd.R_alloc | apply Kd.R_drewN | apply Kd.R_drew)); exact Kd.R_mono (Kd.R_far (p := ⟨gb161, 2, none⟩) (Kd.R_types HO192.out BK161.out (by decide)) (fun _ hk => hk.2) (.slice Ao142 y190.length co142)) (fun _ hk => hk.1)))⟩; have n4_ : Aside0 (w144.heap[gb161]? = some (.cells #[.int .i64 a1_1, .slice Ao23 t174.length co23, .slice Ao142 y190.length co142, .int .i64 t180] 31 (0, 0))) := ⟨(by rw [hw]; exact (by (with_reducible repeat (first | refine blk_drewN ?_ _ | refine blk_drew ?_ | refine blk_alloc ?_ _)); refine blk_put (cs := #[.int .i64 a1_1, .slice Ao23 t174.length co23, .slice Ao24 t177.length co24, .int .i64 t180]) ?_ 2 _ rfl; (with_reducible repeat (first | refine blk_drewN ?_ _ | refine blk_drew ?_ | refine blk_alloc ?_ _)); exact BK161.out))⟩; have n5_ : Aside0 (w144.heap[gb162]? = some (.cells #[.int .i64 a1_0, .int .i64 a1_1, .int .i64 a1_2, .int .i64 a1_3, .int .i64 a1_4] 47 (0, 0))) := ⟨(by rw [hw]; exact (blkFars))⟩; have n6_ : Aside0 (w144.heap[gb163]? = some (.cells #[.int .i64 0, .slice none 0 0, .slice none 0 0, .int .i64 0] 31 (0, 0))) := ⟨(by rw [hw]; exact (blkFars))⟩; have n7_ : Aside0 (w144.heap[gb172]? = some (.cells #[.int .i64 t164, .slice Ao18 t165.length co18, .slice Ao19 t168.length co19, .int .i64 t171] 31 (0, 0))) := ⟨(by rw [hw]; exact (blkFars))⟩; have n8_ : Aside0 (Below w.heap.size w w144) := ⟨(by rw [hw]; exact belowNow)⟩; clear hw; clear HO_162001; clear HO_173001; clear HO_173002; clear HO192; clear BK161; clear BK162; clear BK163; clear BK172; clear HB; have HO_162001 := n0_; have HO_173001 := n1_; have HO_173002 := n2_; have HO192 := n3_; have BK161 := n4_; have BK162 := n5_; have BK163 := n6_; have BK172 := n7_; have HB := n8_; clear n0_ n1_ n2_ n3_ n4_ n5_ n6_ n7_ n8_))
          go_meet
          case rel => exact ⟨_, (t174), (y190), (0), (0), (t165), (.slice Ao23 t174.length co23), (.slice Ao142 y190.length co142), (.slice Ao18 t165.length co18), H', ⟨by have := HJ4.out; have := HJ54.out; first | omega | exact Nat.le_refl _⟩, ⟨by (with_reducible repeat (first | apply Kd.R_alloc | apply Kd.R_drewN | apply Kd.R_drew)); exact HO_162001.out⟩, ⟨by (with_reducible repeat (first | apply Kd.R_alloc | apply Kd.R_drewN | apply Kd.R_drew)); exact HO192.out⟩, ⟨by (with_reducible repeat (first | apply Kd.R_alloc | apply Kd.R_drewN | apply Kd.R_drew)); exact HO_173001.out⟩, ⟨by (with_reducible repeat (first | apply Kd.R_alloc | apply Kd.R_drewN | apply Kd.R_drew)); exact HO_173002.out⟩, ⟨by (with_reducible repeat (first | refine blk_drewN ?_ _ | refine blk_drew ?_ | refine blk_alloc ?_ _)); exact BK161.out⟩, ⟨by (with_reducible repeat (first | refine blk_drewN ?_ _ | refine blk_drew ?_ | refine blk_alloc ?_ _)); exact BK162.out⟩, ⟨by (with_reducible repeat (first | refine blk_drewN ?_ _ | refine blk_drew ?_ | refine blk_alloc ?_ _)); exact BK163.out⟩, ⟨by (with_reducible repeat (first | refine blk_drewN ?_ _ | refine blk_drew ?_ | refine blk_alloc ?_ _)); exact BK172.out⟩, ⟨belowNow⟩⟩
        ·rw [if_neg c133] at H
         exact absurd H (by simp)
       ·rw [if_neg c132] at H
        have c132b0 : (a1_0 == 1) = false := beq_eq_false_iff_ne.mpr c132
        have c132b1 : (a1_0 != 1) = true := bne_iff_ne.mpr c132
        (first | rw [c132b0] | (simp only [i64_w, i32_w]; rw [c132b0]) | (rw [c132b2]; try simp only [Bool.not_false, Bool.not_true]) | skip)
        by_cases c145 : a1_0 = 2
        ·rw [if_pos c145] at H
         have c145b0 : (a1_0 == 2) = true := beq_iff_eq.mpr c145
         have c145b1 : (a1_0 != 2) = false := bne_eq_false_iff_eq.mpr c145
         clear c145
         by_cases c146 : t184 < 0
         ·rw [if_pos c146] at H
          have c146b0 : decide (t184 < 0) = true := decide_eq_true c146
          clear c146
          as_aux_lemma =>
           simp only [Option.some.injEq, Prod.mk.injEq] at H
           obtain ⟨rfl, rfl, rfl, rfl, rfl, rfl⟩ := H
           have hnb147 := NB172_161.out
           have hnc147 := NB161_172.out
           have hnb148 := NB172_162.out
           have hnc148 := NB162_172.out
           have hnb149 := NB172_163.out
           have hnc149 := NB163_172.out
           have hcz150_0 := cz_ BK172.out 0 rfl
           have hcz150_1 := cz_ BK172.out 1 rfl
           have hcz150_2 := cz_ BK172.out 2 rfl
           have hcz150_3 := cz_ BK172.out 3 rfl
           have hfz150_0 := blk_frozen BK172.out 0
           have hfz150_1 := blk_frozen BK172.out 1
           have hfz150_2 := blk_frozen BK172.out 2
           have hfz150_3 := blk_frozen BK172.out 3
           have hnb151 := NB163_161.out
           have hnc151 := NB161_163.out
           have hnb152 := NB163_162.out
           have hnc152 := NB162_163.out
           have hcz153_0 := cz_ BK163.out 0 rfl
           have hcz153_1 := cz_ BK163.out 1 rfl
           have hcz153_2 := cz_ BK163.out 2 rfl
           have hcz153_3 := cz_ BK163.out 3 rfl
           have hfz153_0 := blk_frozen BK163.out 0
           have hfz153_1 := blk_frozen BK163.out 1
           have hfz153_2 := blk_frozen BK163.out 2
           have hfz153_3 := blk_frozen BK163.out 3
           exact impl_DoDesk.end1
         ·rw [if_neg c146] at H
          have c146b0 : decide (t184 < 0) = false := decide_eq_false c146
          clear c146
          by_cases c155 : 0 ≤ t184
          ·rw [if_pos c155] at H
           have c155b0 := eq_true c155
           have c155b1 : decide (0 ≤ t184) = true := decide_eq_true c155
           clear c155
           by_cases c156 : t184 ≤ (t177.length : Int)
           ·rw [if_pos c156] at H
            have c156b0 := eq_true c156
            have c156b1 : decide (t184 ≤ (t177.length : Int)) = true := decide_eq_true c156
            clear c156
            obtain ⟨y193, hy193⟩ : ∃ y_ : List (S70), y_ = (t177.take (t184 : Int).toNat) := ⟨_, rfl⟩
            replace H : (if 0 ≤ (wrap64 (t184 + 1)) then (if (wrap64 (t184 + 1)) ≤ (t177.length : Int) then (impl_DoDesk.j2 kj54 a1_1 t174 (t177.eraseIdx (t184 : Int).toNat) t180 t164 t165 t168 t171) else (none)) else (none)) = some (r1, r2, r3, r4, r5, r6) := by first | (rw [hy193]; with_reducible exact H) | (have H2_ := (Option.bind_some _ _).symm.trans H; rw [hy193]; with_reducible exact H2_) | (have H2_ := (Option.bind_some _ _).symm.trans H; with_reducible exact H2_) | with_reducible exact H | (rw [hy193]; exact H) | exact H
            have Ny193 := Aside0.mk hy193
            clear hy193
            obtain ⟨ji157, hji157⟩ : ∃ j_ : Int, (wrap64 (t184 + 1)) = j_ := ⟨_, rfl⟩
            replace H : (if 0 ≤ (ji157) then (if (ji157) ≤ (t177.length : Int) then (impl_DoDesk.j2 kj54 a1_1 t174 (t177.eraseIdx (t184 : Int).toNat) t180 t164 t165 t168 t171) else (none)) else (none)) = some (r1, r2, r3, r4, r5, r6) := by first | (rw [hji157] at H; exact H) | (simp only [hji157] at H ⊢; exact H)
            have hji157w : (IntKind.i64.wrap (t184 + 1)) = ji157 := (i64_w _).trans hji157
            by_cases c158 : 0 ≤ (ji157)
            ·rw [if_pos c158] at H
             have c158b0 := eq_true c158
             have c158b1 : decide (0 ≤ (ji157)) = true := decide_eq_true c158
             clear c158
             by_cases c159 : (ji157) ≤ (t177.length : Int)
             ·rw [if_pos c159] at H
              have c159b0 := eq_true c159
              have c159b1 : decide ((ji157) ≤ (t177.length : Int)) = true := decide_eq_true c159
              clear c159
              obtain ⟨y197, hy197⟩ : ∃ y_ : List (S70), y_ = (t177.drop ((ji157) : Int).toNat) := ⟨_, rfl⟩
              replace H : (impl_DoDesk.j2 kj54 a1_1 t174 (t177.eraseIdx (t184 : Int).toNat) t180 t164 t165 t168 t171) = some (r1, r2, r3, r4, r5, r6) := by first | (rw [hy197]; with_reducible exact H) | (have H2_ := (Option.bind_some _ _).symm.trans H; rw [hy197]; with_reducible exact H2_) | (have H2_ := (Option.bind_some _ _).symm.trans H; with_reducible exact H2_) | with_reducible exact H | (rw [hy197]; exact H) | exact H
              have Ny197 := Aside0.mk hy197
              clear hy197
              obtain ⟨y201, hy201⟩ : ∃ y_ : List (S70), y_ = (t177.eraseIdx (t184 : Int).toNat) := ⟨_, rfl⟩
              replace H : (impl_DoDesk.j2 kj54 a1_1 t174 y201 t180 t164 t165 t168 t171) = some (r1, r2, r3, r4, r5, r6) := by first | (rw [hy201]; with_reducible exact H) | (have H2_ := (Option.bind_some _ _).symm.trans H; rw [hy201]; with_reducible exact H2_) | (have H2_ := (Option.bind_some _ _).symm.trans H; with_reducible exact H2_) | with_reducible exact H | (rw [hy201]; exact H) | exact H
              have Ny201 := Aside0.mk hy201
              clear hy201
              as_aux_lemma =>
               have H' := Aside0.mk H
               clear H
               have hnb160 := NB161_162.out
               have hnc160 := NB162_161.out
               have hnb161 := NB161_163.out
               have hnc161 := NB163_161.out
               have hnb162 := NB161_172.out
               have hnc162 := NB172_161.out
               have hcz163_0 := cz_ BK161.out 0 rfl
               have hcz163_1 := cz_ BK161.out 1 rfl
               have hcz163_2 := cz_ BK161.out 2 rfl
               have hcz163_3 := cz_ BK161.out 3 rfl
               have hfz163_0 := blk_frozen BK161.out 0
               have hfz163_1 := blk_frozen BK161.out 1
               have hfz163_2 := blk_frozen BK161.out 2
               have hfz163_3 := blk_frozen BK161.out 3
               have q164 : (t184 : Int) ≤ ((t177.length : Int) : Int) := of_decide_eq_true (by first | (with_reducible assumption) | assumption)
               obtain ⟨i0164, hi0164, _, hsz164, _⟩ := info_parts info70
               have hroom164 : t177.length ≤ co24 := (Kd.R_reads' HO_162002.out).2.1
               have hC164 : Kd.C k70 _ Ao24 t177.length t177 := (Kd.R_reads' HO_162002.out).2.2
               have hcut164 := cut_to (P := Try.prog) 29 70 .i64 Try.underlying29 hi0164 Ao24 t177.length co24 t184 (of_decide_eq_true (by first | (with_reducible assumption) | assumption)) q164 hroom164
               have hr164 := Kd.C_take (m := (t184 : Int).toNat) hC164 (by omega)
               have hy164 : y193.length = (t184 : Int).toNat := (by rw [Ny193.out, List.length_take]; omega)
               rw [← Ny193.out] at hr164
               rw [← hy164] at hcut164
               have HR196 := Aside0.mk hr164
               have HC196 := Aside0.mk (show y193.length ≤ co24 from by omega)
               clear hr164 hC164 hroom164 hi0164 hsz164
               have KY164 := Aside0.mk hy164
               clear hy164
               have KL164 := Aside0.mk (show (t184 : Int).toNat ≤ t177.length from by omega)
               replace q164 := eq_true q164
               have q165 : ((ji157) : Int) ≤ ((t177.length : Int) : Int) := of_decide_eq_true (by first | (with_reducible assumption) | assumption)
               obtain ⟨i0165, hi0165, _, hsz165, _⟩ := info_parts info70
               have hroom165 : t177.length ≤ co24 := (Kd.R_reads' HO_162002.out).2.1
               have hC165 : Kd.C k70 _ Ao24 t177.length t177 := (Kd.R_reads' HO_162002.out).2.2
               have q0165 : (0 : Int) ≤ ((ji157) : Int) := of_decide_eq_true (by first | (with_reducible assumption) | assumption)
               have hcut165 := cut_from (P := Try.prog) 29 70 .i64 Try.underlying29 hi0165 4 hsz165 Ao24 t177.length co24 (ji157) q0165 q165
               have hr165 := Kd.C_drop (m := ((ji157) : Int).toNat) (c := co24) hC165 (by omega) hroom165
               obtain ⟨A165, hA165⟩ : ∃ A1, A1 = (if co24 = ((ji157) : Int).toNat then Ao24 else (Ao24 : Option Addr).map (·.add (((ji157) : Int).toNat * 4))) := ⟨_, rfl⟩
               obtain ⟨c165, hc165⟩ : ∃ c1, c1 = co24 - ((ji157) : Int).toNat := ⟨_, rfl⟩
               have hy165 : y197.length = t177.length - ((ji157) : Int).toNat := (by rw [Ny197.out, List.length_drop] <;> omega)
               rw [show (t177).drop ((ji157) : Int).toNat = y197 from Ny197.out.symm] at hr165
               replace hr165 : Kd.C k70 _ A165 y197.length y197 := (by rw [hA165]; exact hr165)
               rw [← hy165, ← hA165, ← hc165] at hcut165
               have HR200 := Aside0.mk hr165
               have HC200 := Aside0.mk (show y197.length ≤ c165 from by rw [hy165, hc165]; exact Nat.sub_le_sub_right hroom165 _)
               clear hr165 hC165 hroom165 hi0165 hsz165 hc165
               have KY165 := Aside0.mk hy165
               have KA165 := Aside0.mk hA165
               clear hy165 hA165
               have KL165 := Aside0.mk (show ((ji157) : Int).toNat ≤ t177.length from by omega)
               replace q165 := eq_true q165
               go_wp2_with (first | (go_at_call 54; have hj_ : 0 ≤ (t184 : Int) := of_decide_eq_true (by first | (with_reducible assumption) | assumption); have hl_ : (ji157 : Int) ≤ (t177.length : Int) := of_decide_eq_true (by first | (with_reducible assumption) | assumption); have hh_ : (t184 : Int) ≤ (t177.length : Int) := of_decide_eq_true (by first | (with_reducible assumption) | assumption); have hb_ := (Kd.R_reads' HO_162002.out).2.2.2.1; have h0_ : (0 : Int) ≤ (ji157 : Int) := of_decide_eq_true (by first | (with_reducible assumption) | assumption); have hy1_ := KY164.out; have hk_ : (ji157 : Int).toNat = y193.length + 1 := (by have hw_ : (ji157 : Int) = t184 + 1 := (by have h00_ := h0_; rw [← hji157] at h00_ ⊢; unfold wrap64 at h00_ ⊢; omega); rw [hw_]; omega); obtain ⟨gd167, cap_, ev_, _⟩ := Kd.R_form HO_162002.out (by omega); injection ev_ with ea_ _ _; (first | subst ea_ | (injection ea_ with eb_; subst eb_)); refine (impl_DoDesk_2.del (w0 := w) (base := w.heap.size) (g := gd167) (n := t177.length) (c := co24) (k := y193.length) _ _ ?hi ?hj (by (with_reducible repeat (first | apply Kd.R_alloc | apply Kd.R_drewN | apply Kd.R_drew)); exact HO_162002.out) ?hk belowNow (below_size belowNow)).mono ?_; (case hi => omega); (case hj => omega); (case hk => omega); rintro e w166 ⟨rfl, ho, hb, hg⟩; (try refine ⟨_, rfl, ?_⟩); clear hj_ hl_ hh_ hb_ hk_ h0_; rw [hy1_, ← Ny201.out] at ho; clear hy1_; have hn_ : t177.length - 1 = y201.length := (by have := (Kd.R_reads' ho).1; omega); rw [hn_] at ho ⊢; clear hn_; have n0_ := Aside0.mk (Kd.R_over' (v := (.slice (some ⟨gd167, 0, none⟩) t177.length co24)) (by (with_reducible repeat (first | apply Kd.R_alloc | apply Kd.R_drewN | apply Kd.R_drew)); exact HO_162001.out) (Kd.R_typed HO_162002.out) (by decide) hg); have n1_ := Aside0.mk (ho); have n2_ := Aside0.mk (Kd.R_over' (v := (.slice (some ⟨gd167, 0, none⟩) t177.length co24)) (by (with_reducible repeat (first | apply Kd.R_alloc | apply Kd.R_drewN | apply Kd.R_drew)); exact HO_173001.out) (Kd.R_typed HO_162002.out) (by decide) hg); have n3_ := Aside0.mk (Kd.R_after (v := (.slice (some ⟨gd167, 0, none⟩) t177.length co24)) (v1 := .slice (some ⟨gd167, 0, none⟩) y201.length co24) (ok := (fun _ => True)) (by (with_reducible repeat (first | apply Kd.R_alloc | apply Kd.R_drewN | apply Kd.R_drew)); exact Kd.R_mono HO_173002.out (fun _ hk => ⟨trivial, hk⟩)) hg (.inl rfl)); have n4_ := Aside0.mk (blk_grown (g := gb161) (o := .cells #[.int .i64 a1_1, .slice Ao23 t174.length co23, .slice (some ⟨gd167, 0, none⟩) t177.length co24, .int .i64 t180] 31 (0, 0)) blkNow hg (Kd.R_ne HO_162002.out BK161.out (by decide))); have n5_ := Aside0.mk (blk_grown (g := gb162) (o := .cells #[.int .i64 a1_0, .int .i64 a1_1, .int .i64 a1_2, .int .i64 a1_3, .int .i64 a1_4] 47 (0, 0)) blkNow hg (Kd.R_ne HO_162002.out BK162.out (by decide))); have n6_ := Aside0.mk (blk_grown (g := gb163) (o := .cells #[.int .i64 0, .slice none 0 0, .slice none 0 0, .int .i64 0] 31 (0, 0)) blkNow hg (Kd.R_ne HO_162002.out BK163.out (by decide))); have n7_ := Aside0.mk (blk_grown (g := gb172) (o := .cells #[.int .i64 t164, .slice Ao18 t165.length co18, .slice Ao19 t168.length co19, .int .i64 t171] 31 (0, 0)) blkNow hg (Kd.R_ne HO_162002.out BK172.out (by decide))); have n8_ := Aside0.mk (hb); clear HO_162001; clear HO_162002; clear HO_173001; clear HO_173002; clear BK161; clear BK162; clear BK163; clear BK172; clear HB; have HO_162001 := n0_; have HO_162002 := n1_; have HO_173001 := n2_; have HO_173002 := n3_; have BK161 := n4_; have BK162 := n5_; have BK163 := n6_; have BK172 := n7_; have HB := n8_; clear n0_ n1_ n2_ n3_ n4_ n5_ n6_ n7_ n8_; clear ho hb hg; have hcz168_0 : w166.cell? ⟨gb161, 0, none⟩ = some (.int .i64 a1_1) := (blk_cell BK161.out 0).trans rfl; have hcz168_1 : w166.cell? ⟨gb161, 1, none⟩ = some (.slice Ao23 t174.length co23) := (blk_cell BK161.out 1).trans rfl; have hcz168_2 : w166.cell? ⟨gb161, 2, none⟩ = some (.slice (some ⟨gd167, 0, none⟩) t177.length co24) := (blk_cell BK161.out 2).trans rfl; have hcz168_3 : w166.cell? ⟨gb161, 3, none⟩ = some (.int .i64 t180) := (blk_cell BK161.out 3).trans rfl; have hfz168_0 := blk_frozen BK161.out 0; have hfz168_1 := blk_frozen BK161.out 1; have hfz168_2 := blk_frozen BK161.out 2; have hfz168_3 := blk_frozen BK161.out 3) | ((with_reducible refine gate_store (t := 29) (p := 181) rfl ?_); refine store_event (t := 29) (p := 181) (v := ?vo_w169) (w1 := (w166.setCell ⟨gb161, 2, none⟩ (.slice (some ⟨gd167, 0, none⟩) y201.length co24))) ?hg ?ho ?hn ?hr ?_; (case ho => rfl); (case hg => rfl); (case hn => rfl); (case hr => first | (go_simp; done) | (go_simp; rfl)); intro w169 hw; have n0_ : Aside0 (Kd.R k41 41 w169 w.heap.size (fun k_ => some k_ ≠ (.slice Ao18 t165.length co18 : Value).ownBlock) (.slice Ao23 t174.length co23) t174) := ⟨(by rw [hw]; exact (by (with_reducible repeat (first | apply Kd.R_alloc | apply Kd.R_drewN | apply Kd.R_drew)); exact Kd.R_mono (Kd.R_far (p := ⟨gb161, 2, none⟩) (Kd.R_types HO_162001.out BK161.out (by decide)) (fun _ hk => hk.2) (.slice (some ⟨gd167, 0, none⟩) y201.length co24)) (fun _ hk => hk.1)))⟩; have n1_ : Aside0 (Kd.R k70 70 w169 w.heap.size (fun k_ => some k_ ≠ (.slice Ao19 t168.length co19 : Value).ownBlock) (.slice (some ⟨gd167, 0, none⟩) y201.length co24) y201) := ⟨(by rw [hw]; exact (by (with_reducible repeat (first | apply Kd.R_alloc | apply Kd.R_drewN | apply Kd.R_drew)); exact Kd.R_mono (Kd.R_far (p := ⟨gb161, 2, none⟩) (Kd.R_types HO_162002.out BK161.out (by decide)) (fun _ hk => hk.2) (.slice (some ⟨gd167, 0, none⟩) y201.length co24)) (fun _ hk => hk.1)))⟩; have n2_ : Aside0 (Kd.R k41 41 w169 w.heap.size (fun k_ => some k_ ≠ (.slice Ao23 t174.length co23 : Value).ownBlock) (.slice Ao18 t165.length co18) t165) := ⟨(by rw [hw]; exact (by (with_reducible repeat (first | apply Kd.R_alloc | apply Kd.R_drewN | apply Kd.R_drew)); exact Kd.R_mono (Kd.R_far (p := ⟨gb161, 2, none⟩) (Kd.R_types HO_173001.out BK161.out (by decide)) (fun _ hk => hk.2) (.slice (some ⟨gd167, 0, none⟩) y201.length co24)) (fun _ hk => hk.1)))⟩; have n3_ : Aside0 (Kd.R k70 70 w169 w.heap.size (fun k_ => some k_ ≠ (.slice (some ⟨gd167, 0, none⟩) y201.length co24 : Value).ownBlock) (.slice Ao19 t168.length co19) t168) := ⟨(by rw [hw]; exact (by (with_reducible repeat (first | apply Kd.R_alloc | apply Kd.R_drewN | apply Kd.R_drew)); exact Kd.R_mono (Kd.R_far (p := ⟨gb161, 2, none⟩) (Kd.R_types HO_173002.out BK161.out (by decide)) (fun _ hk => hk.2) (.slice (some ⟨gd167, 0, none⟩) y201.length co24)) (fun _ hk => hk.1.2)))⟩; have n4_ : Aside0 (w169.heap[gb161]? = some (.cells #[.int .i64 a1_1, .slice Ao23 t174.length co23, .slice (some ⟨gd167, 0, none⟩) y201.length co24, .int .i64 t180] 31 (0, 0))) := ⟨(by rw [hw]; exact (by (with_reducible repeat (first | refine blk_drewN ?_ _ | refine blk_drew ?_ | refine blk_alloc ?_ _)); refine blk_put (cs := #[.int .i64 a1_1, .slice Ao23 t174.length co23, .slice (some ⟨gd167, 0, none⟩) t177.length co24, .int .i64 t180]) ?_ 2 _ rfl; (with_reducible repeat (first | refine blk_drewN ?_ _ | refine blk_drew ?_ | refine blk_alloc ?_ _)); exact BK161.out))⟩; have n5_ : Aside0 (w169.heap[gb162]? = some (.cells #[.int .i64 a1_0, .int .i64 a1_1, .int .i64 a1_2, .int .i64 a1_3, .int .i64 a1_4] 47 (0, 0))) := ⟨(by rw [hw]; exact (blkFars))⟩; have n6_ : Aside0 (w169.heap[gb163]? = some (.cells #[.int .i64 0, .slice none 0 0, .slice none 0 0, .int .i64 0] 31 (0, 0))) := ⟨(by rw [hw]; exact (blkFars))⟩; have n7_ : Aside0 (w169.heap[gb172]? = some (.cells #[.int .i64 t164, .slice Ao18 t165.length co18, .slice Ao19 t168.length co19, .int .i64 t171] 31 (0, 0))) := ⟨(by rw [hw]; exact (blkFars))⟩; have n8_ : Aside0 (Below w.heap.size w w169) := ⟨(by rw [hw]; exact belowNow)⟩; clear hw; clear HO_162001; clear HO_162002; clear HO_173001; clear HO_173002; clear BK161; clear BK162; clear BK163; clear BK172; clear HB; have HO_162001 := n0_; have HO_162002 := n1_; have HO_173001 := n2_; have HO_173002 := n3_; have BK161 := n4_; have BK162 := n5_; have BK163 := n6_; have BK172 := n7_; have HB := n8_; clear n0_ n1_ n2_ n3_ n4_ n5_ n6_ n7_ n8_))
               go_meet
               case rel => exact ⟨_, (t174), (y201), (0), (0), (t165), (.slice Ao23 t174.length co23), (.slice (some ⟨gd167, 0, none⟩) y201.length co24), (.slice Ao18 t165.length co18), H', ⟨by have := HJ4.out; have := HJ54.out; first | omega | exact Nat.le_refl _⟩, ⟨by (with_reducible repeat (first | apply Kd.R_alloc | apply Kd.R_drewN | apply Kd.R_drew)); exact HO_162001.out⟩, ⟨by (with_reducible repeat (first | apply Kd.R_alloc | apply Kd.R_drewN | apply Kd.R_drew)); exact HO_162002.out⟩, ⟨by (with_reducible repeat (first | apply Kd.R_alloc | apply Kd.R_drewN | apply Kd.R_drew)); exact HO_173001.out⟩, ⟨by (with_reducible repeat (first | apply Kd.R_alloc | apply Kd.R_drewN | apply Kd.R_drew)); exact HO_173002.out⟩, ⟨by (with_reducible repeat (first | refine blk_drewN ?_ _ | refine blk_drew ?_ | refine blk_alloc ?_ _)); exact BK161.out⟩, ⟨by (with_reducible repeat (first | refine blk_drewN ?_ _ | refine blk_drew ?_ | refine blk_alloc ?_ _)); exact BK162.out⟩, ⟨by (with_reducible repeat (first | refine blk_drewN ?_ _ | refine blk_drew ?_ | refine blk_alloc ?_ _)); exact BK163.out⟩, ⟨by (with_reducible repeat (first | refine blk_drewN ?_ _ | refine blk_drew ?_ | refine blk_alloc ?_ _)); exact BK172.out⟩, ⟨belowNow⟩⟩
             ·rw [if_neg c159] at H
              exact absurd H (by simp)
            ·rw [if_neg c158] at H
             exact absurd H (by simp)
           ·rw [if_neg c156] at H
            exact absurd H (by simp)
          ·rw [if_neg c155] at H
           exact absurd H (by simp)
        ·rw [if_neg c145] at H
         have c145b0 : (a1_0 == 2) = false := beq_eq_false_iff_ne.mpr c145
         have c145b1 : (a1_0 != 2) = true := bne_iff_ne.mpr c145
         replace H := Option.bind_eq_some_iff.mp H
         obtain ⟨t204, A1700, H⟩ := H
         replace H : (if t204 = true then (if 0 ≤ a1_2 then (if a1_2 < (t174.length : Int) then (if a1_0 = 4 then (impl_DoDesk.j2 kj54 a1_1 (t174.set (a1_2 : Int).toNat (⟨a1_3, (rd_T41 t174 a1_2).f1, (rd_T41 t174 a1_2).f2⟩ : S41)) t177 t180 t164 t165 t168 t171) else (if ((rd_T41 t174 a1_2).f1) < 0 then (some (t164, t165, t168, t171, ([] : List Int), 3)) else ((some (t174.set (a1_2 : Int).toNat (⟨(rd_T41 t174 a1_2).f0, (-1), (rd_T41 t174 a1_2).f2⟩ : S41) : List (S41))).bind fun y206 => (impl_DoDesk.j2 kj54 a1_1 (y206.set (a1_2 : Int).toNat (⟨(rd_T41 y206 a1_2).f0, (rd_T41 y206 a1_2).f1, a1_1⟩ : S41)) t177 t180 t164 t165 t168 t171)))) else (none)) else (none)) else (some (t164, t165, t168, t171, ([] : List Int), 3))) = some (r1, r2, r3, r4, r5, r6) := H
         have A170 := Aside0.mk A1700
         clear A1700
         by_cases c171 : t204 = true
         ·subst c171
          have H1 : (if 0 ≤ a1_2 then (if a1_2 < (t174.length : Int) then (if a1_0 = 4 then (impl_DoDesk.j2 kj54 a1_1 (t174.set (a1_2 : Int).toNat (⟨a1_3, (rd_T41 t174 a1_2).f1, (rd_T41 t174 a1_2).f2⟩ : S41)) t177 t180 t164 t165 t168 t171) else (if ((rd_T41 t174 a1_2).f1) < 0 then (some (t164, t165, t168, t171, ([] : List Int), 3)) else ((some (t174.set (a1_2 : Int).toNat (⟨(rd_T41 t174 a1_2).f0, (-1), (rd_T41 t174 a1_2).f2⟩ : S41) : List (S41))).bind fun y206 => (impl_DoDesk.j2 kj54 a1_1 (y206.set (a1_2 : Int).toNat (⟨(rd_T41 y206 a1_2).f0, (rd_T41 y206 a1_2).f1, a1_1⟩ : S41)) t177 t180 t164 t165 t168 t171)))) else (none)) else (none)) = some (r1, r2, r3, r4, r5, r6) := by rw [if_pos rfl] at H; exact H
          clear H
          have H := H1
          clear H1
          by_cases c172 : 0 ≤ a1_2
          ·rw [if_pos c172] at H
           have c172b0 : decide (0 ≤ a1_2) = true := decide_eq_true c172
           clear c172
           by_cases c173 : a1_2 < (t174.length : Int)
           ·rw [if_pos c173] at H
            have c173b0 : decide (a1_2 < (t174.length : Int)) = true := decide_eq_true c173
            clear c173
            by_cases c175 : a1_0 = 4
            ·rw [if_pos c175] at H
             have c175b0 : (a1_0 == 4) = true := beq_iff_eq.mpr c175
             have c175b1 : (a1_0 != 4) = false := bne_eq_false_iff_eq.mpr c175
             clear c175
             obtain ⟨y205, hy205⟩ : ∃ y_ : List (S41), y_ = (t174.set (a1_2 : Int).toNat (⟨a1_3, (rd_T41 t174 a1_2).f1, (rd_T41 t174 a1_2).f2⟩ : S41)) := ⟨_, rfl⟩
             replace H : (impl_DoDesk.j2 kj54 a1_1 y205 t177 t180 t164 t165 t168 t171) = some (r1, r2, r3, r4, r5, r6) := by first | (rw [hy205]; with_reducible exact H) | (have H2_ := (Option.bind_some _ _).symm.trans H; rw [hy205]; with_reducible exact H2_) | (have H2_ := (Option.bind_some _ _).symm.trans H; with_reducible exact H2_) | with_reducible exact H | (rw [hy205]; exact H) | exact H
             have Ny205 := Aside0.mk hy205
             clear hy205
             as_aux_lemma =>
              have H' := Aside0.mk H
              clear H
              have hnb176 := NB162_161.out
              have hnc176 := NB161_162.out
              have hnb177 := NB162_163.out
              have hnc177 := NB163_162.out
              have hnb178 := NB162_172.out
              have hnc178 := NB172_162.out
              have hcz179_0 := cz_ BK162.out 0 rfl
              have hcz179_1 := cz_ BK162.out 1 rfl
              have hcz179_2 := cz_ BK162.out 2 rfl
              have hcz179_3 := cz_ BK162.out 3 rfl
              have hcz179_4 := cz_ BK162.out 4 rfl
              have hfz179_0 := blk_frozen BK162.out 0
              have hfz179_1 := blk_frozen BK162.out 1
              have hfz179_2 := blk_frozen BK162.out 2
              have hfz179_3 := blk_frozen BK162.out 3
              have hfz179_4 := blk_frozen BK162.out 4
              have hnb180 := NB161_163.out
              have hnc180 := NB163_161.out
              have hnb181 := NB161_172.out
              have hnc181 := NB172_161.out
              have hcz182_0 := cz_ BK161.out 0 rfl
              have hcz182_1 := cz_ BK161.out 1 rfl
              have hcz182_2 := cz_ BK161.out 2 rfl
              have hcz182_3 := cz_ BK161.out 3 rfl
              have hfz182_0 := blk_frozen BK161.out 0
              have hfz182_1 := blk_frozen BK161.out 1
              have hfz182_2 := blk_frozen BK161.out 2
              have hfz182_3 := blk_frozen BK161.out 3
              go_wp2_with (first | ((with_reducible refine gate_callee (f := 43) rfl ?_); refine goesL_ (some 112) rfl rfl Try.func43 (by kernel_rfl) rfl #[.int .i64 a1_2, .int .i64 0, .int .i64 (wrap64 ((t174.length : Int) - 1))] rfl (by (try simp only [List.map_toArray, List.map_cons, List.map_nil]); first | done | rfl | (simp only [List.length_drop, List.length_take]; rfl)) ?_; (with_reducible refine (impl_in.calls a1_2 0 (wrap64 ((t174.length : Int) - 1)) true _ A170.out).mono ?_); rintro e w' ⟨rfl, ⟨nd, rfl⟩⟩; refine ⟨_, rfl, ?_⟩; (try (rw [drewN_self w130]; generalize hq_ : World.drewN w130 _ = w130; have n0_ : Aside0 (Kd.R k41 41 w130 w.heap.size (fun k_ => some k_ ≠ (.slice Ao18 t165.length co18 : Value).ownBlock) (.slice Ao23 t174.length co23) t174) := ⟨by rw [← hq_]; exact (by (with_reducible repeat (first | apply Kd.R_alloc | apply Kd.R_drewN | apply Kd.R_drew)); exact HO_162001.out)⟩; have n1_ : Aside0 (Kd.R k70 70 w130 w.heap.size (fun k_ => some k_ ≠ (.slice Ao19 t168.length co19 : Value).ownBlock) (.slice Ao24 t177.length co24) t177) := ⟨by rw [← hq_]; exact (by (with_reducible repeat (first | apply Kd.R_alloc | apply Kd.R_drewN | apply Kd.R_drew)); exact HO_162002.out)⟩; have n2_ : Aside0 (Kd.R k41 41 w130 w.heap.size (fun k_ => some k_ ≠ (.slice Ao23 t174.length co23 : Value).ownBlock) (.slice Ao18 t165.length co18) t165) := ⟨by rw [← hq_]; exact (by (with_reducible repeat (first | apply Kd.R_alloc | apply Kd.R_drewN | apply Kd.R_drew)); exact HO_173001.out)⟩; have n3_ : Aside0 (Kd.R k70 70 w130 w.heap.size (fun k_ => some k_ ≠ (.slice Ao24 t177.length co24 : Value).ownBlock) (.slice Ao19 t168.length co19) t168) := ⟨by rw [← hq_]; exact (by (with_reducible repeat (first | apply Kd.R_alloc | apply Kd.R_drewN | apply Kd.R_drew)); exact HO_173002.out)⟩; have n4_ : Aside0 (w130.heap[gb161]? = some (.cells #[.int .i64 a1_1, .slice Ao23 t174.length co23, .slice Ao24 t177.length co24, .int .i64 t180] 31 (0, 0))) := ⟨by rw [← hq_]; exact blkNow⟩; have n5_ : Aside0 (w130.heap[gb162]? = some (.cells #[.int .i64 a1_0, .int .i64 a1_1, .int .i64 a1_2, .int .i64 a1_3, .int .i64 a1_4] 47 (0, 0))) := ⟨by rw [← hq_]; exact blkNow⟩; have n6_ : Aside0 (w130.heap[gb163]? = some (.cells #[.int .i64 0, .slice none 0 0, .slice none 0 0, .int .i64 0] 31 (0, 0))) := ⟨by rw [← hq_]; exact blkNow⟩; have n7_ : Aside0 (w130.heap[gb172]? = some (.cells #[.int .i64 t164, .slice Ao18 t165.length co18, .slice Ao19 t168.length co19, .int .i64 t171] 31 (0, 0))) := ⟨by rw [← hq_]; exact blkNow⟩; have n8_ : Aside0 (Below w.heap.size w w130) := ⟨by rw [← hq_]; exact belowNow⟩; clear HO_162001 HO_162002 HO_173001 HO_173002 BK161 BK162 BK163 BK172 HB hq_; have HO_162001 := n0_; have HO_162002 := n1_; have HO_173001 := n2_; have HO_173002 := n3_; have BK161 := n4_; have BK162 := n5_; have BK163 := n6_; have BK172 := n7_; have HB := n8_; clear n0_ n1_ n2_ n3_ n4_ n5_ n6_ n7_ n8_)); have hcz183_0 : w130.cell? ⟨gb161, 0, none⟩ = some (.int .i64 a1_1) := (blk_cell BK161.out 0).trans rfl; have hcz183_1 : w130.cell? ⟨gb161, 1, none⟩ = some (.slice Ao23 t174.length co23) := (blk_cell BK161.out 1).trans rfl; have hcz183_2 : w130.cell? ⟨gb161, 2, none⟩ = some (.slice Ao24 t177.length co24) := (blk_cell BK161.out 2).trans rfl; have hcz183_3 : w130.cell? ⟨gb161, 3, none⟩ = some (.int .i64 t180) := (blk_cell BK161.out 3).trans rfl; have hfz183_0 := blk_frozen BK161.out 0; have hfz183_1 := blk_frozen BK161.out 1; have hfz183_2 := blk_frozen BK161.out 2; have hfz183_3 := blk_frozen BK161.out 3; have hcz184_0 : w130.cell? ⟨gb162, 0, none⟩ = some (.int .i64 a1_0) := (blk_cell BK162.out 0).trans rfl; have hcz184_1 : w130.cell? ⟨gb162, 1, none⟩ = some (.int .i64 a1_1) := (blk_cell BK162.out 1).trans rfl; have hcz184_2 : w130.cell? ⟨gb162, 2, none⟩ = some (.int .i64 a1_2) := (blk_cell BK162.out 2).trans rfl; have hcz184_3 : w130.cell? ⟨gb162, 3, none⟩ = some (.int .i64 a1_3) := (blk_cell BK162.out 3).trans rfl; have hcz184_4 : w130.cell? ⟨gb162, 4, none⟩ = some (.int .i64 a1_4) := (blk_cell BK162.out 4).trans rfl; have hfz184_0 := blk_frozen BK162.out 0; have hfz184_1 := blk_frozen BK162.out 1; have hfz184_2 := blk_frozen BK162.out 2; have hfz184_3 := blk_frozen BK162.out 3; have hfz184_4 := blk_frozen BK162.out 4; have p174 : 0 ≤ (a1_2 : Int) := of_decide_eq_true (by first | (with_reducible assumption) | assumption); have q174 : (a1_2 : Int) < ((t174.length : Int) : Int) := of_decide_eq_true (by first | (with_reducible assumption) | assumption); obtain ⟨go174, co174, eo174, gb174, gl174, cl174, HG174⟩ := Kd.R_form HO_162001.out (by omega); (first | cases eo174 | (injection eo174 with ea_ en_ ec_; (first | subst ea_ | (injection ea_ with ea_; subst ea_)); subst ec_; clear en_)); have GB174 := Aside0.mk gb174; have GG174 := Aside0.mk HG174; clear gb174 gl174 HG174; obtain ⟨ce174, hcl174, hM174, hcc174, hfr174⟩ := Kd.R_elem HO_162001.out z41 (a1_2 : Int) p174 q174; obtain rfl := k41_openM hM174; have hx174_0 : w130.cell? ⟨go174, (a1_2 : Int).toNat * 3, none⟩ = some (.int .i64 ((rd_T41 t174 a1_2).f0)) := hcc174 0 _ rfl; have hx174_1 : w130.cell? ⟨go174, (a1_2 : Int).toNat * 3 + 1, none⟩ = some (.int .i64 ((rd_T41 t174 a1_2).f1)) := hcc174 1 _ rfl; have hx174_2 : w130.cell? ⟨go174, (a1_2 : Int).toNat * 3 + 2, none⟩ = some (.int .i64 ((rd_T41 t174 a1_2).f2)) := hcc174 2 _ rfl; have hf174_0 : w130.frozen? ⟨go174, (a1_2 : Int).toNat * 3, none⟩ = false := hfr174 0; have hf174_1 : w130.frozen? ⟨go174, (a1_2 : Int).toNat * 3 + 1, none⟩ = false := hfr174 1; have hf174_2 : w130.frozen? ⟨go174, (a1_2 : Int).toNat * 3 + 2, none⟩ = false := hfr174 2; clear hcl174 hcc174 hfr174 hM174; replace p174 := eq_true p174; replace q174 := eq_true q174; have HX185 := Aside0.mk (show Kd.R k41 41 w130 w.heap.size (fun k_ => some k_ ≠ (.slice Ao18 t165.length co18 : Value).ownBlock) (.slice (some ⟨go174, 0, none⟩) t174.length co23) t174 from (by (with_reducible repeat (first | apply Kd.R_alloc | apply Kd.R_drewN | apply Kd.R_drew)); exact HO_162001.out)); obtain ⟨ce185, hcl185, hM185, hcc185, hfr185⟩ := Kd.R_elem HX185.out z41 (a1_2 : Int) (of_decide_eq_true (by first | (with_reducible assumption) | assumption)) (by have h_ : (a1_2 : Int) < ((t174.length : Int) : Int) := of_decide_eq_true (by first | (with_reducible assumption) | assumption); first | exact h_ | (have e_ := (Kd.R_reads' HO_162001.out).1; omega) | simpa using h_); obtain rfl := k41_openM hM185; have HP185 := Kd.R_seg HX185.out (a1_2 : Int) (of_decide_eq_true (by first | (with_reducible assumption) | assumption)) (by have h_ : (a1_2 : Int) < ((t174.length : Int) : Int) := of_decide_eq_true (by first | (with_reducible assumption) | assumption); first | exact h_ | (have e_ := (Kd.R_reads' HO_162001.out).1; omega) | simpa using h_) (seg := [.int .i64 a1_3]) (j := 0) hcl185 hcc185 (show 1 ≤ 3 from by decide) (x' := (⟨a1_3, (rd_T41 t174 a1_2).f1, (rd_T41 t174 a1_2).f2⟩ : S41)) (k41_mkM _ _ _ (⟨a1_3, (rd_T41 t174 a1_2).f1, (rd_T41 t174 a1_2).f2⟩ : S41) ) (fun _ hk => hk); have hx185_0 := hcc185 0 _ rfl; (try simp only [show (k41).sz = 3 from rfl, Nat.mul_one, Nat.add_zero] at hx185_0); have hf185_0 := hfr185 0; (try simp only [show (k41).sz = 3 from rfl, Nat.mul_one, Nat.add_zero] at hf185_0); clear hcl185 hcc185 hfr185 hM185) | ((with_reducible refine gate_store (t := 3) (p := 131) rfl ?_); refine store_event (t := 3) (p := 131) (v := ?vo_w186) (w1 := (w130.setCell ⟨go174, (a1_2 : Int).toNat * 3, none⟩ (.int .i64 a1_3))) ?hg ?ho ?hn ?hr ?_; (case ho => rfl); (case hg => rfl); (case hn => rfl); (case hr => first | (go_simp; done) | (go_simp; rfl)); intro w186 hw; have hg : w130.grownBy w186 (some go174) := (by rw [hw]; exact HP185.2); have hp_ : Kd.R k41 41 w186 w.heap.size (fun k_ => some k_ ≠ (.slice Ao18 t165.length co18 : Value).ownBlock) (.slice (some ⟨go174, 0, none⟩) t174.length co23) y205 := (by rw [hw, Ny205.out]; exact HP185.1); clear HP185; have n0_ := Aside0.mk (hp_); have n1_ := Aside0.mk (Kd.R_over' (v := (.slice (some ⟨go174, 0, none⟩) t174.length co23)) (by (with_reducible repeat (first | apply Kd.R_alloc | apply Kd.R_drewN | apply Kd.R_drew)); exact HO_162002.out) (Kd.R_typed HO_162001.out) (by decide) hg); have n2_ := Aside0.mk (Kd.R_after (v := (.slice (some ⟨go174, 0, none⟩) t174.length co23)) (v1 := (.slice (some ⟨go174, 0, none⟩) t174.length co23)) (ok := (fun _ => True)) (by (with_reducible repeat (first | apply Kd.R_alloc | apply Kd.R_drewN | apply Kd.R_drew)); exact Kd.R_mono HO_173001.out (fun _ hk => ⟨trivial, hk⟩)) hg (.inl rfl)); have n3_ := Aside0.mk (Kd.R_over' (v := (.slice (some ⟨go174, 0, none⟩) t174.length co23)) (by (with_reducible repeat (first | apply Kd.R_alloc | apply Kd.R_drewN | apply Kd.R_drew)); exact HO_173002.out) (Kd.R_typed HO_162001.out) (by decide) hg); have n4_ := Aside0.mk (blk_grown (g := gb161) (o := .cells #[.int .i64 a1_1, .slice (some ⟨go174, 0, none⟩) t174.length co23, .slice Ao24 t177.length co24, .int .i64 t180] 31 (0, 0)) blkNow hg (Kd.R_ne HO_162001.out BK161.out (by decide))); have n5_ := Aside0.mk (blk_grown (g := gb162) (o := .cells #[.int .i64 a1_0, .int .i64 a1_1, .int .i64 a1_2, .int .i64 a1_3, .int .i64 a1_4] 47 (0, 0)) blkNow hg (Kd.R_ne HO_162001.out BK162.out (by decide))); have n6_ := Aside0.mk (blk_grown (g := gb163) (o := .cells #[.int .i64 0, .slice none 0 0, .slice none 0 0, .int .i64 0] 31 (0, 0)) blkNow hg (Kd.R_ne HO_162001.out BK163.out (by decide))); have n7_ := Aside0.mk (blk_grown (g := gb172) (o := .cells #[.int .i64 t164, .slice Ao18 t165.length co18, .slice Ao19 t168.length co19, .int .i64 t171] 31 (0, 0)) blkNow hg (Kd.R_ne HO_162001.out BK172.out (by decide))); have n8_ := Aside0.mk ((by rw [hw]; exact below_set (HB.out) GB174.out : Below w.heap.size w w186)); clear HO_162001; clear HO_162002; clear HO_173001; clear HO_173002; clear BK161; clear BK162; clear BK163; clear BK172; clear HB; have HO_162001 := n0_; have HO_162002 := n1_; have HO_173001 := n2_; have HO_173002 := n3_; have BK161 := n4_; have BK162 := n5_; have BK163 := n6_; have BK172 := n7_; have HB := n8_; clear n0_ n1_ n2_ n3_ n4_ n5_ n6_ n7_ n8_; clear hg hw hp_))
              go_meet
              case rel => exact ⟨_, (y205), (t177), (0), (0), (t165), (.slice (some ⟨go174, 0, none⟩) t174.length co23), (.slice Ao24 t177.length co24), (.slice Ao18 t165.length co18), H', ⟨by have := HJ4.out; have := HJ54.out; first | omega | exact Nat.le_refl _⟩, ⟨by (with_reducible repeat (first | apply Kd.R_alloc | apply Kd.R_drewN | apply Kd.R_drew)); exact HO_162001.out⟩, ⟨by (with_reducible repeat (first | apply Kd.R_alloc | apply Kd.R_drewN | apply Kd.R_drew)); exact HO_162002.out⟩, ⟨by (with_reducible repeat (first | apply Kd.R_alloc | apply Kd.R_drewN | apply Kd.R_drew)); exact Kd.R_mono HO_173001.out (fun _ hk => hk.2)⟩, ⟨by (with_reducible repeat (first | apply Kd.R_alloc | apply Kd.R_drewN | apply Kd.R_drew)); exact HO_173002.out⟩, ⟨by (with_reducible repeat (first | refine blk_drewN ?_ _ | refine blk_drew ?_ | refine blk_alloc ?_ _)); exact BK161.out⟩, ⟨by (with_reducible repeat (first | refine blk_drewN ?_ _ | refine blk_drew ?_ | refine blk_alloc ?_ _)); exact BK162.out⟩, ⟨by (with_reducible repeat (first | refine blk_drewN ?_ _ | refine blk_drew ?_ | refine blk_alloc ?_ _)); exact BK163.out⟩, ⟨by (with_reducible repeat (first | refine blk_drewN ?_ _ | refine blk_drew ?_ | refine blk_alloc ?_ _)); exact BK172.out⟩, ⟨belowNow⟩⟩
            ·rw [if_neg c175] at H
             have c175b0 : (a1_0 == 4) = false := beq_eq_false_iff_ne.mpr c175
             have c175b1 : (a1_0 != 4) = true := bne_iff_ne.mpr c175
             by_cases c187 : ((rd_T41 t174 a1_2).f1) < 0
             ·rw [if_pos c187] at H
              have c187b0 : decide (((rd_T41 t174 a1_2).f1) < 0) = true := decide_eq_true c187
              clear c187
              as_aux_lemma =>
               simp only [Option.some.injEq, Prod.mk.injEq] at H
               obtain ⟨rfl, rfl, rfl, rfl, rfl, rfl⟩ := H
               have hnb188 := NB162_161.out
               have hnc188 := NB161_162.out
               have hnb189 := NB162_163.out
               have hnc189 := NB163_162.out
               have hnb190 := NB162_172.out
               have hnc190 := NB172_162.out
               have hcz191_0 := cz_ BK162.out 0 rfl
               have hcz191_1 := cz_ BK162.out 1 rfl
               have hcz191_2 := cz_ BK162.out 2 rfl
               have hcz191_3 := cz_ BK162.out 3 rfl
               have hcz191_4 := cz_ BK162.out 4 rfl
               have hfz191_0 := blk_frozen BK162.out 0
               have hfz191_1 := blk_frozen BK162.out 1
               have hfz191_2 := blk_frozen BK162.out 2
               have hfz191_3 := blk_frozen BK162.out 3
               have hfz191_4 := blk_frozen BK162.out 4
               have hnb192 := NB161_163.out
               have hnc192 := NB163_161.out
               have hnb193 := NB161_172.out
               have hnc193 := NB172_161.out
               have hcz194_0 := cz_ BK161.out 0 rfl
               have hcz194_1 := cz_ BK161.out 1 rfl
               have hcz194_2 := cz_ BK161.out 2 rfl
               have hcz194_3 := cz_ BK161.out 3 rfl
               have hfz194_0 := blk_frozen BK161.out 0
               have hfz194_1 := blk_frozen BK161.out 1
               have hfz194_2 := blk_frozen BK161.out 2
               have hfz194_3 := blk_frozen BK161.out 3
               exact impl_DoDesk.end2
             ·rw [if_neg c187] at H
              have c187b0 : decide (((rd_T41 t174 a1_2).f1) < 0) = false := decide_eq_false c187
              clear c187
              obtain ⟨y206, hy206⟩ : ∃ y_ : List (S41), y_ = (t174.set (a1_2 : Int).toNat (⟨(rd_T41 t174 a1_2).f0, (-1), (rd_T41 t174 a1_2).f2⟩ : S41)) := ⟨_, rfl⟩
              replace H : (impl_DoDesk.j2 kj54 a1_1 (y206.set (a1_2 : Int).toNat (⟨(rd_T41 y206 a1_2).f0, (rd_T41 y206 a1_2).f1, a1_1⟩ : S41)) t177 t180 t164 t165 t168 t171) = some (r1, r2, r3, r4, r5, r6) := by first | (rw [hy206]; with_reducible exact H) | (have H2_ := (Option.bind_some _ _).symm.trans H; rw [hy206]; with_reducible exact H2_) | (have H2_ := (Option.bind_some _ _).symm.trans H; with_reducible exact H2_) | with_reducible exact H | (rw [hy206]; exact H) | exact H
              have Ny206 := Aside0.mk hy206
              clear hy206
              obtain ⟨y207, hy207⟩ : ∃ y_ : List (S41), y_ = (y206.set (a1_2 : Int).toNat (⟨(rd_T41 y206 a1_2).f0, (rd_T41 y206 a1_2).f1, a1_1⟩ : S41)) := ⟨_, rfl⟩
              replace H : (impl_DoDesk.j2 kj54 a1_1 y207 t177 t180 t164 t165 t168 t171) = some (r1, r2, r3, r4, r5, r6) := by first | (rw [hy207]; with_reducible exact H) | (have H2_ := (Option.bind_some _ _).symm.trans H; rw [hy207]; with_reducible exact H2_) | (have H2_ := (Option.bind_some _ _).symm.trans H; with_reducible exact H2_) | with_reducible exact H | (rw [hy207]; exact H) | exact H
              have Ny207 := Aside0.mk hy207
              clear hy207
              as_aux_lemma =>
               have H' := Aside0.mk H
               clear H
               have hnb201 := NB162_161.out
               have hnc201 := NB161_162.out
               have hnb202 := NB162_163.out
               have hnc202 := NB163_162.out
               have hnb203 := NB162_172.out
               have hnc203 := NB172_162.out
               have hcz204_0 := cz_ BK162.out 0 rfl
               have hcz204_1 := cz_ BK162.out 1 rfl
               have hcz204_2 := cz_ BK162.out 2 rfl
               have hcz204_3 := cz_ BK162.out 3 rfl
               have hcz204_4 := cz_ BK162.out 4 rfl
               have hfz204_0 := blk_frozen BK162.out 0
               have hfz204_1 := blk_frozen BK162.out 1
               have hfz204_2 := blk_frozen BK162.out 2
               have hfz204_3 := blk_frozen BK162.out 3
               have hfz204_4 := blk_frozen BK162.out 4
               have hnb205 := NB161_163.out
               have hnc205 := NB163_161.out
               have hnb206 := NB161_172.out
               have hnc206 := NB172_161.out
               have hcz207_0 := cz_ BK161.out 0 rfl
               have hcz207_1 := cz_ BK161.out 1 rfl
               have hcz207_2 := cz_ BK161.out 2 rfl
               have hcz207_3 := cz_ BK161.out 3 rfl
               have hfz207_0 := blk_frozen BK161.out 0
               have hfz207_1 := blk_frozen BK161.out 1
               have hfz207_2 := blk_frozen BK161.out 2
               have hfz207_3 := blk_frozen BK161.out 3
               try go_wp2_with (first | ((with_reducible refine gate_callee (f := 43) rfl ?_); refine goesL_ (some 112) rfl rfl Try.func43 (by kernel_rfl) rfl #[.int .i64 a1_2, .int .i64 0, .int .i64 (wrap64 ((t174.length : Int) - 1))] rfl (by (try simp only [List.map_toArray, List.map_cons, List.map_nil]); first | done | rfl | (simp only [List.length_drop, List.length_take]; rfl)) ?_; (with_reducible refine (impl_in.calls a1_2 0 (wrap64 ((t174.length : Int) - 1)) true _ A170.out).mono ?_); rintro e w' ⟨rfl, ⟨nd, rfl⟩⟩; refine ⟨_, rfl, ?_⟩; (try (rw [drewN_self w130]; generalize hq_ : World.drewN w130 _ = w130; have n0_ : Aside0 (Kd.R k41 41 w130 w.heap.size (fun k_ => some k_ ≠ (.slice Ao18 t165.length co18 : Value).ownBlock) (.slice Ao23 t174.length co23) t174) := ⟨by rw [← hq_]; exact (by (with_reducible repeat (first | apply Kd.R_alloc | apply Kd.R_drewN | apply Kd.R_drew)); exact HO_162001.out)⟩; have n1_ : Aside0 (Kd.R k70 70 w130 w.heap.size (fun k_ => some k_ ≠ (.slice Ao19 t168.length co19 : Value).ownBlock) (.slice Ao24 t177.length co24) t177) := ⟨by rw [← hq_]; exact (by (with_reducible repeat (first | apply Kd.R_alloc | apply Kd.R_drewN | apply Kd.R_drew)); exact HO_162002.out)⟩; have n2_ : Aside0 (Kd.R k41 41 w130 w.heap.size (fun k_ => some k_ ≠ (.slice Ao23 t174.length co23 : Value).ownBlock) (.slice Ao18 t165.length co18) t165) := ⟨by rw [← hq_]; exact (by (with_reducible repeat (first | apply Kd.R_alloc | apply Kd.R_drewN | apply Kd.R_drew)); exact HO_173001.out)⟩; have n3_ : Aside0 (Kd.R k70 70 w130 w.heap.size (fun k_ => some k_ ≠ (.slice Ao24 t177.length co24 : Value).ownBlock) (.slice Ao19 t168.length co19) t168) := ⟨by rw [← hq_]; exact (by (with_reducible repeat (first | apply Kd.R_alloc | apply Kd.R_drewN | apply Kd.R_drew)); exact HO_173002.out)⟩; have n4_ : Aside0 (w130.heap[gb161]? = some (.cells #[.int .i64 a1_1, .slice Ao23 t174.length co23, .slice Ao24 t177.length co24, .int .i64 t180] 31 (0, 0))) := ⟨by rw [← hq_]; exact blkNow⟩; have n5_ : Aside0 (w130.heap[gb162]? = some (.cells #[.int .i64 a1_0, .int .i64 a1_1, .int .i64 a1_2, .int .i64 a1_3, .int .i64 a1_4] 47 (0, 0))) := ⟨by rw [← hq_]; exact blkNow⟩; have n6_ : Aside0 (w130.heap[gb163]? = some (.cells #[.int .i64 0, .slice none 0 0, .slice none 0 0, .int .i64 0] 31 (0, 0))) := ⟨by rw [← hq_]; exact blkNow⟩; have n7_ : Aside0 (w130.heap[gb172]? = some (.cells #[.int .i64 t164, .slice Ao18 t165.length co18, .slice Ao19 t168.length co19, .int .i64 t171] 31 (0, 0))) := ⟨by rw [← hq_]; exact blkNow⟩; have n8_ : Aside0 (Below w.heap.size w w130) := ⟨by rw [← hq_]; exact belowNow⟩; clear HO_162001 HO_162002 HO_173001 HO_173002 BK161 BK162 BK163 BK172 HB hq_; have HO_162001 := n0_; have HO_162002 := n1_; have HO_173001 := n2_; have HO_173002 := n3_; have BK161 := n4_; have BK162 := n5_; have BK163 := n6_; have BK172 := n7_; have HB := n8_; clear n0_ n1_ n2_ n3_ n4_ n5_ n6_ n7_ n8_)); have hcz208_0 : w130.cell? ⟨gb161, 0, none⟩ = some (.int .i64 a1_1) := (blk_cell BK161.out 0).trans rfl; have hcz208_1 : w130.cell? ⟨gb161, 1, none⟩ = some (.slice Ao23 t174.length co23) := (blk_cell BK161.out 1).trans rfl; have hcz208_2 : w130.cell? ⟨gb161, 2, none⟩ = some (.slice Ao24 t177.length co24) := (blk_cell BK161.out 2).trans rfl; have hcz208_3 : w130.cell? ⟨gb161, 3, none⟩ = some (.int .i64 t180) := (blk_cell BK161.out 3).trans rfl; have hfz208_0 := blk_frozen BK161.out 0; have hfz208_1 := blk_frozen BK161.out 1; have hfz208_2 := blk_frozen BK161.out 2; have hfz208_3 := blk_frozen BK161.out 3; have hcz209_0 : w130.cell? ⟨gb162, 0, none⟩ = some (.int .i64 a1_0) := (blk_cell BK162.out 0).trans rfl; have hcz209_1 : w130.cell? ⟨gb162, 1, none⟩ = some (.int .i64 a1_1) := (blk_cell BK162.out 1).trans rfl; have hcz209_2 : w130.cell? ⟨gb162, 2, none⟩ = some (.int .i64 a1_2) := (blk_cell BK162.out 2).trans rfl; have hcz209_3 : w130.cell? ⟨gb162, 3, none⟩ = some (.int .i64 a1_3) := (blk_cell BK162.out 3).trans rfl; have hcz209_4 : w130.cell? ⟨gb162, 4, none⟩ = some (.int .i64 a1_4) := (blk_cell BK162.out 4).trans rfl; have hfz209_0 := blk_frozen BK162.out 0; have hfz209_1 := blk_frozen BK162.out 1; have hfz209_2 := blk_frozen BK162.out 2; have hfz209_3 := blk_frozen BK162.out 3; have hfz209_4 := blk_frozen BK162.out 4; have p174 : 0 ≤ (a1_2 : Int) := of_decide_eq_true (by first | (with_reducible assumption) | assumption); have q174 : (a1_2 : Int) < ((t174.length : Int) : Int) := of_decide_eq_true (by first | (with_reducible assumption) | assumption); obtain ⟨go174, co174, eo174, gb174, gl174, cl174, HG174⟩ := Kd.R_form HO_162001.out (by omega); (first | cases eo174 | (injection eo174 with ea_ en_ ec_; (first | subst ea_ | (injection ea_ with ea_; subst ea_)); subst ec_; clear en_)); have GB174 := Aside0.mk gb174; have GG174 := Aside0.mk HG174; clear gb174 gl174 HG174; obtain ⟨ce174, hcl174, hM174, hcc174, hfr174⟩ := Kd.R_elem HO_162001.out z41 (a1_2 : Int) p174 q174; obtain rfl := k41_openM hM174; have hx174_0 : w130.cell? ⟨go174, (a1_2 : Int).toNat * 3, none⟩ = some (.int .i64 ((rd_T41 t174 a1_2).f0)) := hcc174 0 _ rfl; have hx174_1 : w130.cell? ⟨go174, (a1_2 : Int).toNat * 3 + 1, none⟩ = some (.int .i64 ((rd_T41 t174 a1_2).f1)) := hcc174 1 _ rfl; have hx174_2 : w130.cell? ⟨go174, (a1_2 : Int).toNat * 3 + 2, none⟩ = some (.int .i64 ((rd_T41 t174 a1_2).f2)) := hcc174 2 _ rfl; have hf174_0 : w130.frozen? ⟨go174, (a1_2 : Int).toNat * 3, none⟩ = false := hfr174 0; have hf174_1 : w130.frozen? ⟨go174, (a1_2 : Int).toNat * 3 + 1, none⟩ = false := hfr174 1; have hf174_2 : w130.frozen? ⟨go174, (a1_2 : Int).toNat * 3 + 2, none⟩ = false := hfr174 2; clear hcl174 hcc174 hfr174 hM174; replace p174 := eq_true p174; replace q174 := eq_true q174))
               have n0_ := Aside0.mk (Kd.R_drew HO_162001.out)
               have n1_ := Aside0.mk (Kd.R_drew HO_162002.out)
               have n2_ := Aside0.mk (Kd.R_drew HO_173001.out)
               have n3_ := Aside0.mk (Kd.R_drew HO_173002.out)
               have n4_ := Aside0.mk (blk_drew BK161.out)
               have n5_ := Aside0.mk (blk_drew BK162.out)
               have n6_ := Aside0.mk (blk_drew BK163.out)
               have n7_ := Aside0.mk (blk_drew BK172.out)
               have n8_ := Aside0.mk (below_drew1 HB.out)
               clear HO_162001
               clear HO_162002
               clear HO_173001
               clear HO_173002
               clear BK161
               clear BK162
               clear BK163
               clear BK172
               clear HB
               have HO_162001 := n0_
               have HO_162002 := n1_
               have HO_173001 := n2_
               have HO_173002 := n3_
               have BK161 := n4_
               have BK162 := n5_
               have BK163 := n6_
               have BK172 := n7_
               have HB := n8_
               clear n0_ n1_ n2_ n3_ n4_ n5_ n6_ n7_ n8_
               obtain ⟨ce211, hcl211, hM211, hcc211, hfr211⟩ := Kd.R_elem HO_162001.out z41 (a1_2 : Int) (of_decide_eq_true (by first | (with_reducible assumption) | assumption)) (by have h_ : (a1_2 : Int) < ((t174.length : Int) : Int) := of_decide_eq_true (by first | (with_reducible assumption) | assumption); first | exact h_ | (have e_ := (Kd.R_reads' HO_162001.out).1; omega) | simpa using h_)
               obtain rfl := k41_openM hM211
               have HP211 := (Kd.R_seg HO_162001.out (a1_2 : Int) (of_decide_eq_true (by first | (with_reducible assumption) | assumption)) (by have h_ : (a1_2 : Int) < ((t174.length : Int) : Int) := of_decide_eq_true (by first | (with_reducible assumption) | assumption); first | exact h_ | (have e_ := (Kd.R_reads' HO_162001.out).1; omega) | simpa using h_) (seg := [.int .i64 (-1)]) (j := 1) hcl211 hcc211 (show 2 ≤ 3 from by decide) (x' := (⟨(rd_T41 t174 a1_2).f0, (-1), (rd_T41 t174 a1_2).f2⟩ : S41)) (k41_mkM _ _ _ (⟨(rd_T41 t174 a1_2).f0, (-1), (rd_T41 t174 a1_2).f2⟩ : S41) ) (fun _ hk => hk)).1
               rw [← Ny206.out] at HP211
               have HQ211 := Aside0.mk HP211
               have hx211_0 : World.cell? _ ⟨go174, (a1_2 : Int).toNat * 3, none⟩ = some _ := hcc211 0 _ rfl
               have hf211_0 : World.frozen? _ ⟨go174, (a1_2 : Int).toNat * 3, none⟩ = false := hfr211 0
               have hx211_1 : World.cell? _ ⟨go174, (a1_2 : Int).toNat * 3 + 1, none⟩ = some _ := hcc211 1 _ rfl
               have hf211_1 : World.frozen? _ ⟨go174, (a1_2 : Int).toNat * 3 + 1, none⟩ = false := hfr211 1
               have hx211_2 : World.cell? _ ⟨go174, (a1_2 : Int).toNat * 3 + 2, none⟩ = some _ := hcc211 2 _ rfl
               have hf211_2 : World.frozen? _ ⟨go174, (a1_2 : Int).toNat * 3 + 2, none⟩ = false := hfr211 2
               clear hcl211 hcc211 hfr211 hM211 HP211
               obtain ⟨ce212, hcl212, hM212, hcc212, hfr212⟩ := Kd.R_elem HQ211.out z41 (a1_2 : Int) (of_decide_eq_true (by first | (with_reducible assumption) | assumption)) (by have h_ : (a1_2 : Int) < ((t174.length : Int) : Int) := of_decide_eq_true (by first | (with_reducible assumption) | assumption); first | exact h_ | (have e_ := (Kd.R_reads' HO_162001.out).1; omega) | simpa using h_)
               obtain rfl := k41_openM hM212
               have HP212 := (Kd.R_seg HQ211.out (a1_2 : Int) (of_decide_eq_true (by first | (with_reducible assumption) | assumption)) (by have h_ : (a1_2 : Int) < ((t174.length : Int) : Int) := of_decide_eq_true (by first | (with_reducible assumption) | assumption); first | exact h_ | (have e_ := (Kd.R_reads' HO_162001.out).1; omega) | simpa using h_) (seg := [.int .i64 a1_1]) (j := 2) hcl212 hcc212 (show 3 ≤ 3 from by decide) (x' := (⟨(rd_T41 y206 a1_2).f0, (rd_T41 y206 a1_2).f1, a1_1⟩ : S41)) (k41_mkM _ _ _ (⟨(rd_T41 y206 a1_2).f0, (rd_T41 y206 a1_2).f1, a1_1⟩ : S41) ) (fun _ hk => hk)).1
               rw [← Ny207.out] at HP212
               have HQ212 := Aside0.mk HP212
               clear hcl212 hcc212 hfr212 hM212 HP212
               have GG174 := Aside0.mk (blk_drew GG174.out)
               refine start_ (n := 10) (S := fun w' => w'.cell? ⟨gb161, 0, none⟩ = some (.int .i64 a1_1) ∧ w'.cell? ⟨gb161, 1, none⟩ = some (.slice (some ⟨go174, 0, none⟩) t174.length co23) ∧ w'.cell? ⟨gb161, 2, none⟩ = some (.slice Ao24 t177.length co24) ∧ w'.cell? ⟨gb161, 3, none⟩ = some (.int .i64 t180)) (ds := [9]) #[false, false, false, false, false, false, false, false, false, false] (by kernel_rfl) rfl rfl ⟨(blk_cell BK161.out 0).trans rfl, (blk_cell BK161.out 1).trans rfl, (blk_cell BK161.out 2).trans rfl, (blk_cell BK161.out 3).trans rfl⟩ (fun hHeld => ?_); refine with_tabW impl_DoDesk.tab23 impl_DoDesk.bits23 (fun HT_ HW_ => ?_)
               generalize w130.drew = w210 at GG174 hx211_0 hf211_0 hx211_1 hf211_1 hx211_2 hf211_2 HO_162001 HO_162002 HO_173001 HO_173002 BK161 BK162 BK163 BK172 HB HQ211 HQ212 hHeld ⊢
               refine pure_ (i := 0) (N := some 142) (v := ?_) (a' := ?_) #[true, false, false, false, false, false, false, false, false, false] rfl rfl (any_of HT_.out (by kernel_rfl)) (fun _ _ _ h => h) (Or.inl ⟨by rfl, ?_⟩) ?_ ?_
               rotate_left
               ·intro w'
                go_simp
                with_reducible rfl
               rotate_left
               ·simp only [Act.put, List.setIfInBounds_toArray, List.set_cons_zero, List.set_cons_succ, i64_w, i32_w]
                rfl
               refine pure_ (i := 1) (N := some 143) (v := ?_) (a' := ?_) #[true, true, false, false, false, false, false, false, false, false] rfl rfl (any_of HT_.out (by kernel_rfl)) (fun _ _ _ h => h) (Or.inl ⟨by rfl, ?_⟩) ?_ ?_
               rotate_left
               ·intro w'
                go_simp
                with_reducible rfl
               rotate_left
               ·simp only [Act.put, List.setIfInBounds_toArray, List.set_cons_zero, List.set_cons_succ, i64_w, i32_w]
                rfl
               refine pure_ (i := 2) (N := some 144) (v := ?_) (a' := ?_) #[true, true, true, false, false, false, false, false, false, false] rfl rfl (any_of HT_.out (by kernel_rfl)) (fun _ _ _ h => h) (Or.inl ⟨by rfl, ?_⟩) ?_ ?_
               rotate_left
               ·intro w'
                go_simp
                with_reducible rfl
               rotate_left
               ·simp only [Act.put, List.setIfInBounds_toArray, List.set_cons_zero, List.set_cons_succ, i64_w, i32_w]
                rfl
               refine pure_ (i := 4) (N := some 146) (v := ?_) (a' := ?_) #[true, true, true, false, true, false, false, false, false, false] rfl rfl (any_of HT_.out (by kernel_rfl)) (fun _ _ _ h => h) (Or.inl ⟨by rfl, ?_⟩) ?_ ?_
               rotate_left
               ·intro w'
                go_simp
                with_reducible rfl
               rotate_left
               ·simp only [Act.put, List.setIfInBounds_toArray, List.set_cons_zero, List.set_cons_succ, i64_w, i32_w]
                rfl
               refine pure_ (i := 5) (N := some 147) (v := ?_) (a' := ?_) #[true, true, true, false, true, true, false, false, false, false] rfl rfl (any_of HT_.out (by kernel_rfl)) (fun _ _ _ h => h) (Or.inl ⟨by rfl, ?_⟩) ?_ ?_
               rotate_left
               ·intro w'
                go_simp
                with_reducible rfl
               rotate_left
               ·simp only [Act.put, List.setIfInBounds_toArray, List.set_cons_zero, List.set_cons_succ, i64_w, i32_w]
                rfl
               refine take_ (i := 3) (N := some 145) (v := ?_) (a' := ?_) #[true, true, true, true, true, true, false, false, false, false] rfl rfl (take_ofW HT_.out HW_.out (by kernel_rfl)) (fun _ _ _ h => h) (Or.inl ⟨by rfl, ?_⟩) hHeld ?_ ?_
               rotate_left
               ·rintro w' ⟨s0, s1, s2, s3⟩
                go_simp
                with_reducible rfl
               rotate_left
               ·simp only [Act.put, List.setIfInBounds_toArray, List.set_cons_zero, List.set_cons_succ, i64_w, i32_w]
                rfl
               refine one_ (i := 6) (N := none) #[true, true, true, true, true, true, true, false, false, false] rfl rfl (one_of HT_.out (by kernel_rfl)) (by decide) (fun K hK => ?_)
               refine skip_ (w1 := ?_) (by rfl) rfl ?_ ?_
               rotate_left
               ·go_simp
                rfl
               refine hK.out _ _ ⟨(cell_far (blk_ne BK161.out GG174.out (by decide)) _).trans hHeld.1, (cell_far (blk_ne BK161.out GG174.out (by decide)) _).trans hHeld.2.1, (cell_far (blk_ne BK161.out GG174.out (by decide)) _).trans hHeld.2.2.1, (cell_far (blk_ne BK161.out GG174.out (by decide)) _).trans hHeld.2.2.2⟩ (fun hHeld => ?_)
               clear hK K
               refine pure_ (i := 7) (N := some 148) (v := ?_) (a' := ?_) #[true, true, true, true, true, true, true, true, false, false] rfl rfl (any_of HT_.out (by kernel_rfl)) (fun _ _ _ h => h) (Or.inl ⟨by rfl, ?_⟩) ?_ ?_
               rotate_left
               ·intro w'
                go_simp
                with_reducible rfl
               rotate_left
               ·simp only [Act.put, List.setIfInBounds_toArray, List.set_cons_zero, List.set_cons_succ, i64_w, i32_w]
                rfl
               refine pure_ (i := 8) (N := some 149) (v := ?_) (a' := ?_) #[true, true, true, true, true, true, true, true, true, false] rfl rfl (any_of HT_.out (by kernel_rfl)) (fun _ _ _ h => h) (Or.inl ⟨by rfl, ?_⟩) ?_ ?_
               rotate_left
               ·intro w'
                go_simp
                with_reducible rfl
               rotate_left
               ·simp only [Act.put, List.setIfInBounds_toArray, List.set_cons_zero, List.set_cons_succ, i64_w, i32_w]
                rfl
               refine last_ (i := 9) (N := none) #[true, true, true, true, true, true, true, true, true, true] rfl rfl (one_of HT_.out (by kernel_rfl)) (by decide) (fun K hK => ?_)
               refine skip_ (w1 := ?_) (by rfl) rfl ?_ ?_
               rotate_left
               ·go_simp
                rfl
               refine hK.out _ _ ?_
               clear hK K
               refine done_ (done_of HT_.out (by kernel_rfl)) ?_
               try go_wp2
               go_meet
               case rel => exact ⟨_, (y207), (t177), (0), (0), (t165), (.slice (some ⟨go174, 0, none⟩) t174.length co23), (.slice Ao24 t177.length co24), (.slice Ao18 t165.length co18), H', ⟨by have := HJ4.out; have := HJ54.out; first | omega | exact Nat.le_refl _⟩, ⟨by (with_reducible repeat (first | apply Kd.R_alloc | apply Kd.R_drewN | apply Kd.R_drew)); exact HQ212.out⟩, ⟨by (with_reducible repeat (first | apply Kd.R_alloc | apply Kd.R_drewN | apply Kd.R_drew)); exact Kd.R_mono (Kd.R_far (p := ⟨go174, (a1_2 : Int).toNat * 3 + 2, none⟩) (Kd.R_far (p := ⟨go174, (a1_2 : Int).toNat * 3 + 1, none⟩) (Kd.R_types HO_162002.out GG174.out (by decide)) (fun _ hk => hk.2) (.int .i64 (-1))) (fun _ hk => hk.2) (.int .i64 a1_1)) (fun _ hk => hk.1)⟩, ⟨by (with_reducible repeat (first | apply Kd.R_alloc | apply Kd.R_drewN | apply Kd.R_drew)); exact Kd.R_mono (Kd.R_far (p := ⟨go174, (a1_2 : Int).toNat * 3 + 2, none⟩) (Kd.R_far (p := ⟨go174, (a1_2 : Int).toNat * 3 + 1, none⟩) (Kd.R_mono HO_173001.out (fun k_ hk => (⟨hk, fun e_ => hk (by rw [e_]; rfl)⟩ : _ ∧ k_ ≠ go174))) (fun _ hk => hk.2) (.int .i64 (-1))) (fun _ hk => hk.2) (.int .i64 a1_1)) (fun _ hk => hk.1)⟩, ⟨by (with_reducible repeat (first | apply Kd.R_alloc | apply Kd.R_drewN | apply Kd.R_drew)); exact Kd.R_mono (Kd.R_far (p := ⟨go174, (a1_2 : Int).toNat * 3 + 2, none⟩) (Kd.R_far (p := ⟨go174, (a1_2 : Int).toNat * 3 + 1, none⟩) (Kd.R_types HO_173002.out GG174.out (by decide)) (fun _ hk => hk.2) (.int .i64 (-1))) (fun _ hk => hk.2) (.int .i64 a1_1)) (fun _ hk => hk.1)⟩, ⟨by (with_reducible repeat (first | refine blk_drewN ?_ _ | refine blk_drew ?_ | refine blk_alloc ?_ _)); refine blk_far ?_ (by have h_ := Kd.R_ne HO_162001.out BK161.out (by decide); intro e_; exact h_ (by rw [e_]; rfl)) _; (with_reducible repeat (first | refine blk_drewN ?_ _ | refine blk_drew ?_ | refine blk_alloc ?_ _)); refine blk_far ?_ (by have h_ := Kd.R_ne HO_162001.out BK161.out (by decide); intro e_; exact h_ (by rw [e_]; rfl)) _; (with_reducible repeat (first | refine blk_drewN ?_ _ | refine blk_drew ?_ | refine blk_alloc ?_ _)); exact BK161.out⟩, ⟨by (with_reducible repeat (first | refine blk_drewN ?_ _ | refine blk_drew ?_ | refine blk_alloc ?_ _)); refine blk_far ?_ (by have h_ := Kd.R_ne HO_162001.out BK162.out (by decide); intro e_; exact h_ (by rw [e_]; rfl)) _; (with_reducible repeat (first | refine blk_drewN ?_ _ | refine blk_drew ?_ | refine blk_alloc ?_ _)); refine blk_far ?_ (by have h_ := Kd.R_ne HO_162001.out BK162.out (by decide); intro e_; exact h_ (by rw [e_]; rfl)) _; (with_reducible repeat (first | refine blk_drewN ?_ _ | refine blk_drew ?_ | refine blk_alloc ?_ _)); exact BK162.out⟩, ⟨by (with_reducible repeat (first | refine blk_drewN ?_ _ | refine blk_drew ?_ | refine blk_alloc ?_ _)); refine blk_far ?_ (by have h_ := Kd.R_ne HO_162001.out BK163.out (by decide); intro e_; exact h_ (by rw [e_]; rfl)) _; (with_reducible repeat (first | refine blk_drewN ?_ _ | refine blk_drew ?_ | refine blk_alloc ?_ _)); refine blk_far ?_ (by have h_ := Kd.R_ne HO_162001.out BK163.out (by decide); intro e_; exact h_ (by rw [e_]; rfl)) _; (with_reducible repeat (first | refine blk_drewN ?_ _ | refine blk_drew ?_ | refine blk_alloc ?_ _)); exact BK163.out⟩, ⟨by (with_reducible repeat (first | refine blk_drewN ?_ _ | refine blk_drew ?_ | refine blk_alloc ?_ _)); refine blk_far ?_ (by have h_ := Kd.R_ne HO_162001.out BK172.out (by decide); intro e_; exact h_ (by rw [e_]; rfl)) _; (with_reducible repeat (first | refine blk_drewN ?_ _ | refine blk_drew ?_ | refine blk_alloc ?_ _)); refine blk_far ?_ (by have h_ := Kd.R_ne HO_162001.out BK172.out (by decide); intro e_; exact h_ (by rw [e_]; rfl)) _; (with_reducible repeat (first | refine blk_drewN ?_ _ | refine blk_drew ?_ | refine blk_alloc ?_ _)); exact BK172.out⟩, ⟨by repeat (first | (with_reducible first | exact HB.out | apply below_alloc | apply pw_below_drewN | apply below_drew1 | refine below_set ?_ GB174.out | refine below_set ?_ GB174.out | refine below_set ?_ GE161.out | refine below_set ?_ GE162.out | refine below_set ?_ GE163.out | refine below_set ?_ GE172.out) | exact HB.out)⟩⟩
           ·rw [if_neg c173] at H
            exact absurd H (by simp)
          ·rw [if_neg c172] at H
           exact absurd H (by simp)
         ·replace c171 := Bool.eq_false_iff.mpr c171
          subst c171
          have H1 : (some (t164, t165, t168, t171, ([] : List Int), 3)) = some (r1, r2, r3, r4, r5, r6) := by rw [if_neg (show ¬ (false = true) by decide)] at H; exact H
          clear H
          have H := H1
          clear H1
          as_aux_lemma =>
           simp only [Option.some.injEq, Prod.mk.injEq] at H
           obtain ⟨rfl, rfl, rfl, rfl, rfl, rfl⟩ := H
           have hnb213 := NB162_161.out
           have hnc213 := NB161_162.out
           have hnb214 := NB162_163.out
           have hnc214 := NB163_162.out
           have hnb215 := NB162_172.out
           have hnc215 := NB172_162.out
           have hcz216_0 := cz_ BK162.out 0 rfl
           have hcz216_1 := cz_ BK162.out 1 rfl
           have hcz216_2 := cz_ BK162.out 2 rfl
           have hcz216_3 := cz_ BK162.out 3 rfl
           have hcz216_4 := cz_ BK162.out 4 rfl
           have hfz216_0 := blk_frozen BK162.out 0
           have hfz216_1 := blk_frozen BK162.out 1
           have hfz216_2 := blk_frozen BK162.out 2
           have hfz216_3 := blk_frozen BK162.out 3
           have hfz216_4 := blk_frozen BK162.out 4
           have hnb217 := NB161_163.out
           have hnc217 := NB163_161.out
           have hnb218 := NB161_172.out
           have hnc218 := NB172_161.out
           have hcz219_0 := cz_ BK161.out 0 rfl
           have hcz219_1 := cz_ BK161.out 1 rfl
           have hcz219_2 := cz_ BK161.out 2 rfl
           have hcz219_3 := cz_ BK161.out 3 rfl
           have hfz219_0 := blk_frozen BK161.out 0
           have hfz219_1 := blk_frozen BK161.out 1
           have hfz219_2 := blk_frozen BK161.out 2
           have hfz219_3 := blk_frozen BK161.out 3
           exact impl_DoDesk.end3
      case rest =>
       clear HC122
       try clear c1
       try clear p1
       try clear q1
       try clear hx1
       try clear c2
       try clear p2
       try clear c4
       try clear p6
       try clear c12
       try clear c13
       try clear c14
       try clear c15
       try clear c16
       try clear q16
       try clear c17
       try clear p17
       try clear q17
       try clear hx17
       try clear hf17
       try clear c18
       try clear hx18
       try clear hf18
       try clear c19
       try clear c20
       try clear c21
       try clear c22
       try clear c43
       try clear p64
       try clear c121
       try clear c123
       try clear c124
       try clear c125
       try clear c127
       try clear c128
       try clear c132
       try clear c132b0
       try clear c132b1
       try clear c133
       try clear c134
       try clear c135
       try clear c136
       try clear c138
       try clear c139
       try clear c145
       try clear c145b0
       try clear c145b1
       try clear c146
       try clear c146b0
       try clear c147
       try clear c148
       try clear c149
       try clear c151
       try clear c152
       try clear c155
       try clear c155b0
       try clear c155b1
       try clear c156
       try clear c156b0
       try clear c156b1
       try clear c158
       try clear c158b0
       try clear c158b1
       try clear c159
       try clear c159b0
       try clear c159b1
       try clear c160
       try clear c161
       try clear c162
       try clear q164
       try clear c165
       try clear q165
       try clear c171
       try clear c172
       try clear c172b0
       try clear c173
       try clear c173b0
       try clear c174
       try clear p174
       try clear q174
       try clear hx174
       try clear hf174
       try clear c175
       try clear c175b0
       try clear c175b1
       try clear c176
       try clear c177
       try clear c178
       try clear c180
       try clear c181
       try clear c185
       try clear hx185
       try clear hf185
       try clear c187
       try clear c187b0
       try clear c188
       try clear c189
       try clear c190
       try clear c192
       try clear c193
       try clear c197
       try clear c201
       try clear c202
       try clear c203
       try clear c205
       try clear c206
       try clear c211
       try clear c212
       try clear c213
       try clear c214
       try clear c215
       try clear c217
       try clear c218
       try clear c220
       try clear hcz126_0
       try clear hcz126_1
       try clear hcz126_2
       try clear hcz126_3
       try clear hcz126_4
       try clear hcz129_0
       try clear hcz129_1
       try clear hcz129_2
       try clear hcz129_3
       try clear hcz131_0
       try clear hcz131_1
       try clear hcz131_2
       try clear hcz131_3
       try clear hcz131_4
       try clear hcz137_0
       try clear hcz137_1
       try clear hcz137_2
       try clear hcz137_3
       try clear hcz140_0
       try clear hcz140_1
       try clear hcz140_2
       try clear hcz140_3
       try clear hcz140_4
       try clear hcz143_0
       try clear hcz143_1
       try clear hcz143_2
       try clear hcz143_3
       try clear hcz150_0
       try clear hcz150_1
       try clear hcz150_2
       try clear hcz150_3
       try clear hcz153_0
       try clear hcz153_1
       try clear hcz153_2
       try clear hcz153_3
       try clear hcz163_0
       try clear hcz163_1
       try clear hcz163_2
       try clear hcz163_3
       try clear hcz168_0
       try clear hcz168_1
       try clear hcz168_2
       try clear hcz168_3
       try clear hcz179_0
       try clear hcz179_1
       try clear hcz179_2
       try clear hcz179_3
       try clear hcz179_4
       try clear hcz182_0
       try clear hcz182_1
       try clear hcz182_2
       try clear hcz182_3
       try clear hcz183_0
       try clear hcz183_1
       try clear hcz183_2
       try clear hcz183_3
       try clear hcz184_0
       try clear hcz184_1
       try clear hcz184_2
       try clear hcz184_3
       try clear hcz184_4
       try clear hcz191_0
       try clear hcz191_1
       try clear hcz191_2
       try clear hcz191_3
       try clear hcz191_4
       try clear hcz194_0
       try clear hcz194_1
       try clear hcz194_2
       try clear hcz194_3
       try clear hcz195_0
       try clear hcz195_1
       try clear hcz195_2
       try clear hcz195_3
       try clear hcz196_0
       try clear hcz196_1
       try clear hcz196_2
       try clear hcz196_3
       try clear hcz196_4
       try clear hcz198_0
       try clear hcz198_1
       try clear hcz198_2
       try clear hcz198_3
       try clear hcz199_0
       try clear hcz199_1
       try clear hcz199_2
       try clear hcz199_3
       try clear hcz204_0
       try clear hcz204_1
       try clear hcz204_2
       try clear hcz204_3
       try clear hcz204_4
       try clear hcz207_0
       try clear hcz207_1
       try clear hcz207_2
       try clear hcz207_3
       try clear hcz208_0
       try clear hcz208_1
       try clear hcz208_2
       try clear hcz208_3
       try clear hcz209_0
       try clear hcz209_1
       try clear hcz209_2
       try clear hcz209_3
       try clear hcz209_4
       try clear hcz216_0
       try clear hcz216_1
       try clear hcz216_2
       try clear hcz216_3
       try clear hcz216_4
       try clear hcz219_0
       try clear hcz219_1
       try clear hcz219_2
       try clear hcz219_3
       try clear hcz221_0
       try clear hcz221_1
       try clear hcz221_2
       try clear hcz221_3
       try clear hcz222_0
       try clear hcz222_1
       try clear hcz222_2
       try clear hcz222_3
       try clear hfz126_0
       try clear hfz126_1
       try clear hfz126_2
       try clear hfz126_3
       try clear hfz126_4
       try clear hfz129_0
       try clear hfz129_1
       try clear hfz129_2
       try clear hfz129_3
       try clear hfz131_0
       try clear hfz131_1
       try clear hfz131_2
       try clear hfz131_3
       try clear hfz131_4
       try clear hfz137_0
       try clear hfz137_1
       try clear hfz137_2
       try clear hfz137_3
       try clear hfz140_0
       try clear hfz140_1
       try clear hfz140_2
       try clear hfz140_3
       try clear hfz140_4
       try clear hfz143_0
       try clear hfz143_1
       try clear hfz143_2
       try clear hfz143_3
       try clear hfz150_0
       try clear hfz150_1
       try clear hfz150_2
       try clear hfz150_3
       try clear hfz153_0
       try clear hfz153_1
       try clear hfz153_2
       try clear hfz153_3
       try clear hfz163_0
       try clear hfz163_1
       try clear hfz163_2
       try clear hfz163_3
       try clear hfz168_0
       try clear hfz168_1
       try clear hfz168_2
       try clear hfz168_3
       try clear hfz179_0
       try clear hfz179_1
       try clear hfz179_2
       try clear hfz179_3
       try clear hfz179_4
       try clear hfz182_0
       try clear hfz182_1
       try clear hfz182_2
       try clear hfz182_3
       try clear hfz183_0
       try clear hfz183_1
       try clear hfz183_2
       try clear hfz183_3
       try clear hfz184_0
       try clear hfz184_1
       try clear hfz184_2
       try clear hfz184_3
       try clear hfz184_4
       try clear hfz191_0
       try clear hfz191_1
       try clear hfz191_2
       try clear hfz191_3
       try clear hfz191_4
       try clear hfz194_0
       try clear hfz194_1
       try clear hfz194_2
       try clear hfz194_3
       try clear hfz195_0
       try clear hfz195_1
       try clear hfz195_2
       try clear hfz195_3
       try clear hfz196_0
       try clear hfz196_1
       try clear hfz196_2
       try clear hfz196_3
       try clear hfz196_4
       try clear hfz198_0
       try clear hfz198_1
       try clear hfz198_2
       try clear hfz198_3
       try clear hfz199_0
       try clear hfz199_1
       try clear hfz199_2
       try clear hfz199_3
       try clear hfz204_0
       try clear hfz204_1
       try clear hfz204_2
       try clear hfz204_3
       try clear hfz204_4
       try clear hfz207_0
       try clear hfz207_1
       try clear hfz207_2
       try clear hfz207_3
       try clear hfz208_0
       try clear hfz208_1
       try clear hfz208_2
       try clear hfz208_3
       try clear hfz209_0
       try clear hfz209_1
       try clear hfz209_2
       try clear hfz209_3
       try clear hfz209_4
       try clear hfz216_0
       try clear hfz216_1
       try clear hfz216_2
       try clear hfz216_3
       try clear hfz216_4
       try clear hfz219_0
       try clear hfz219_1
       try clear hfz219_2
       try clear hfz219_3
       try clear hfz221_0
       try clear hfz221_1
       try clear hfz221_2
       try clear hfz221_3
       try clear hfz222_0
       try clear hfz222_1
       try clear hfz222_2
       try clear hfz222_3
       try clear hfz64_1
       try clear hfz64_2
       try clear hfz64_3
       try clear hfz64_4
       try clear hfz78_0
       try clear hfz78_1
       try clear hfz78_2
       try clear hfz78_3
       try clear hfz78_4
       try clear hfz81_0
       try clear hfz81_1
       try clear hfz81_2
       try clear hfz81_3
       try clear hfz86_0
       try clear hfz86_1
       try clear hfz86_2
       try clear hfz86_3
       try clear hfz86_4
       try clear hfz90_0
       try clear hfz90_1
       try clear hfz90_2
       try clear hfz90_3
       try clear hfz90_4
       try clear hfz94_0
       try clear hfz94_1
       try clear hfz94_2
       try clear hfz94_3
       try clear hfz94_4
       try clear hfz98_0
       try clear hfz98_1
       try clear hfz98_2
       try clear hfz98_3
       try clear hfz98_4
       try clear hx174_0
       try clear hx174_1
       try clear hx174_2
       try clear hx185_0
       try clear p174
       try clear p2
       try clear q0165
       try clear q164
       try clear q165
       try clear q174
       obtain ⟨kq, x162001_121, x162002_121, x164000_121, x164003_121, x173001_121, u162001, u162002, u173001, HA, HJ121, HO_162001, HO_162002, HO_173001, HO_173002, BK161, BK162, BK163, BK172, HB⟩ := hcut
       cases kq with
       | zero => exact absurd HA.out (by simp [impl_DoDesk.j2])
       | succ kj121 =>
        have H := HA.out
        clear HA
        simp only [impl_DoDesk.j2] at H
        have H' := Aside0.mk H
        clear H
        go_wp2
        go_loopg [12] kj121 (fun kq v12 w' => ∃ (x12_4 : List Int) (x162001_4 : List (S41)) (x162002_4 : List (S70)) (x162003_4 : Int) (x173001_4 : List (S41)) (u162001 : Value) (u162002 : Value) (u173001 : Value), Aside0 (impl_DoDesk.l0 kq x12_4 a1_1 x162001_4 x162002_4 x162003_4 t164 x173001_4 t168 t171 = some (r1, r2, r3, r4, r5, r6)) ∧ Aside0 (kq ≤ kj121) ∧ Aside0 (Kd.R (Kd.int .i64) 3 w' w.heap.size (fun _ => True) v12 x12_4) ∧ Aside0 (Kd.R k41 41 w' w.heap.size (fun k_ => some k_ ≠ (u173001 : Value).ownBlock) u162001 x162001_4) ∧ Aside0 (Kd.R k70 70 w' w.heap.size (fun k_ => some k_ ≠ ((.slice Ao19 t168.length co19) : Value).ownBlock) u162002 x162002_4) ∧ Aside0 (Kd.R k41 41 w' w.heap.size (fun k_ => some k_ ≠ (u162001 : Value).ownBlock) u173001 x173001_4) ∧ Aside0 (Kd.R k70 70 w' w.heap.size (fun k_ => some k_ ≠ (u162002 : Value).ownBlock) (.slice Ao19 t168.length co19) t168) ∧ Aside0 (w'.heap[gb161]? = some (.cells #[.int .i64 a1_1, u162001, u162002, .int .i64 x162003_4] 31 (0, 0))) ∧ Aside0 (w'.heap[gb162]? = some (.cells #[.int .i64 a1_0, .int .i64 a1_1, .int .i64 a1_2, .int .i64 a1_3, .int .i64 a1_4] 47 (0, 0))) ∧ Aside0 (w'.heap[gb163]? = some (.cells #[.int .i64 x164000_121, (.slice none 0 0), (.slice none 0 0), .int .i64 x164003_121] 31 (0, 0))) ∧ Aside0 (w'.heap[gb172]? = some (.cells #[.int .i64 t164, u173001, (.slice Ao19 t168.length co19), .int .i64 t171] 31 (0, 0))) ∧ Aside0 (Below w.heap.size w w'))
        case atStart => exact ⟨(([] : List Int)), (x162001_121), (x162002_121), (t180), (x173001_121), (u162001), (u162002), (u173001), H', ⟨Nat.le_refl _⟩, ⟨by first | exact Kd.R_nil _ _ _ _ _ | exact Kd.N_nil _ _ _ _ _ | exact Kd.V_nil _ _ _ _ _ | exact Kd.Q_nil _ _ _ _ _ | exact Kd.S_nil _ _ _ _ _⟩, ⟨by (with_reducible repeat (first | apply Kd.R_alloc | apply Kd.R_drewN | apply Kd.R_drew)); exact HO_162001.out⟩, ⟨by (with_reducible repeat (first | apply Kd.R_alloc | apply Kd.R_drewN | apply Kd.R_drew)); exact HO_162002.out⟩, ⟨by (with_reducible repeat (first | apply Kd.R_alloc | apply Kd.R_drewN | apply Kd.R_drew)); exact HO_173001.out⟩, ⟨by (with_reducible repeat (first | apply Kd.R_alloc | apply Kd.R_drewN | apply Kd.R_drew)); exact HO_173002.out⟩, ⟨by (with_reducible repeat (first | refine blk_drewN ?_ _ | refine blk_drew ?_ | refine blk_alloc ?_ _)); exact BK161.out⟩, ⟨by (with_reducible repeat (first | refine blk_drewN ?_ _ | refine blk_drew ?_ | refine blk_alloc ?_ _)); exact BK162.out⟩, ⟨by (with_reducible repeat (first | refine blk_drewN ?_ _ | refine blk_drew ?_ | refine blk_alloc ?_ _)); exact BK163.out⟩, ⟨by (with_reducible repeat (first | refine blk_drewN ?_ _ | refine blk_drew ?_ | refine blk_alloc ?_ _)); exact BK172.out⟩, ⟨belowNow⟩⟩
        case round =>
         clear H'
         try clear c1
         try clear p1
         try clear q1
         try clear hx1
         try clear c2
         try clear p2
         try clear c4
         try clear p6
         try clear c12
         try clear c13
         try clear c14
         try clear c15
         try clear c16
         try clear q16
         try clear c17
         try clear p17
         try clear q17
         try clear hx17
         try clear hf17
         try clear c18
         try clear hx18
         try clear hf18
         try clear c19
         try clear c20
         try clear c21
         try clear c22
         try clear c43
         try clear p64
         try clear c121
         try clear c123
         try clear c124
         try clear c125
         try clear c127
         try clear c128
         try clear c132
         try clear c132b0
         try clear c132b1
         try clear c133
         try clear c134
         try clear c135
         try clear c136
         try clear c138
         try clear c139
         try clear c145
         try clear c145b0
         try clear c145b1
         try clear c146
         try clear c146b0
         try clear c147
         try clear c148
         try clear c149
         try clear c151
         try clear c152
         try clear c155
         try clear c155b0
         try clear c155b1
         try clear c156
         try clear c156b0
         try clear c156b1
         try clear c158
         try clear c158b0
         try clear c158b1
         try clear c159
         try clear c159b0
         try clear c159b1
         try clear c160
         try clear c161
         try clear c162
         try clear q164
         try clear c165
         try clear q165
         try clear c171
         try clear c172
         try clear c172b0
         try clear c173
         try clear c173b0
         try clear c174
         try clear p174
         try clear q174
         try clear hx174
         try clear hf174
         try clear c175
         try clear c175b0
         try clear c175b1
         try clear c176
         try clear c177
         try clear c178
         try clear c180
         try clear c181
         try clear c185
         try clear hx185
         try clear hf185
         try clear c187
         try clear c187b0
         try clear c188
         try clear c189
         try clear c190
         try clear c192
         try clear c193
         try clear c197
         try clear c201
         try clear c202
         try clear c203
         try clear c205
         try clear c206
         try clear c211
         try clear c212
         try clear c213
         try clear c214
         try clear c215
         try clear c217
         try clear c218
         try clear c220
         try clear hcz126_0
         try clear hcz126_1
         try clear hcz126_2
         try clear hcz126_3
         try clear hcz126_4
         try clear hcz129_0
         try clear hcz129_1
         try clear hcz129_2
         try clear hcz129_3
         try clear hcz131_0
         try clear hcz131_1
         try clear hcz131_2
         try clear hcz131_3
         try clear hcz131_4
         try clear hcz137_0
         try clear hcz137_1
         try clear hcz137_2
         try clear hcz137_3
         try clear hcz140_0
         try clear hcz140_1
         try clear hcz140_2
         try clear hcz140_3
         try clear hcz140_4
         try clear hcz143_0
         try clear hcz143_1
         try clear hcz143_2
         try clear hcz143_3
         try clear hcz150_0
         try clear hcz150_1
         try clear hcz150_2
         try clear hcz150_3
         try clear hcz153_0
         try clear hcz153_1
         try clear hcz153_2
         try clear hcz153_3
         try clear hcz163_0
         try clear hcz163_1
         try clear hcz163_2
         try clear hcz163_3
         try clear hcz168_0
         try clear hcz168_1
         try clear hcz168_2
         try clear hcz168_3
         try clear hcz179_0
         try clear hcz179_1
         try clear hcz179_2
         try clear hcz179_3
         try clear hcz179_4
         try clear hcz182_0
         try clear hcz182_1
         try clear hcz182_2
         try clear hcz182_3
         try clear hcz183_0
         try clear hcz183_1
         try clear hcz183_2
         try clear hcz183_3
         try clear hcz184_0
         try clear hcz184_1
         try clear hcz184_2
         try clear hcz184_3
         try clear hcz184_4
         try clear hcz191_0
         try clear hcz191_1
         try clear hcz191_2
         try clear hcz191_3
         try clear hcz191_4
         try clear hcz194_0
         try clear hcz194_1
         try clear hcz194_2
         try clear hcz194_3
         try clear hcz195_0
         try clear hcz195_1
         try clear hcz195_2
         try clear hcz195_3
         try clear hcz196_0
         try clear hcz196_1
         try clear hcz196_2
         try clear hcz196_3
         try clear hcz196_4
         try clear hcz198_0
         try clear hcz198_1
         try clear hcz198_2
         try clear hcz198_3
         try clear hcz199_0
         try clear hcz199_1
         try clear hcz199_2
         try clear hcz199_3
         try clear hcz204_0
         try clear hcz204_1
         try clear hcz204_2
         try clear hcz204_3
         try clear hcz204_4
         try clear hcz207_0
         try clear hcz207_1
         try clear hcz207_2
         try clear hcz207_3
         try clear hcz208_0
         try clear hcz208_1
         try clear hcz208_2
         try clear hcz208_3
         try clear hcz209_0
         try clear hcz209_1
         try clear hcz209_2
         try clear hcz209_3
         try clear hcz209_4
         try clear hcz216_0
         try clear hcz216_1
         try clear hcz216_2
         try clear hcz216_3
         try clear hcz216_4
         try clear hcz219_0
         try clear hcz219_1
         try clear hcz219_2
         try clear hcz219_3
         try clear hcz221_0
         try clear hcz221_1
         try clear hcz221_2
         try clear hcz221_3
         try clear hcz222_0
         try clear hcz222_1
         try clear hcz222_2
         try clear hcz222_3
         try clear hfz126_0
         try clear hfz126_1
         try clear hfz126_2
         try clear hfz126_3
         try clear hfz126_4
         try clear hfz129_0
         try clear hfz129_1
         try clear hfz129_2
         try clear hfz129_3
         try clear hfz131_0
         try clear hfz131_1
         try clear hfz131_2
         try clear hfz131_3
         try clear hfz131_4
         try clear hfz137_0
         try clear hfz137_1
         try clear hfz137_2
         try clear hfz137_3
         try clear hfz140_0
         try clear hfz140_1
         try clear hfz140_2
         try clear hfz140_3
         try clear hfz140_4
         try clear hfz143_0
         try clear hfz143_1
         try clear hfz143_2
         try clear hfz143_3
         try clear hfz150_0
         try clear hfz150_1
         try clear hfz150_2
         try clear hfz150_3
         try clear hfz153_0
         try clear hfz153_1
         try clear hfz153_2
         try clear hfz153_3
         try clear hfz163_0
         try clear hfz163_1
         try clear hfz163_2
         try clear hfz163_3
         try clear hfz168_0
         try clear hfz168_1
         try clear hfz168_2
         try clear hfz168_3
         try clear hfz179_0
         try clear hfz179_1
         try clear hfz179_2
         try clear hfz179_3
         try clear hfz179_4
         try clear hfz182_0
         try clear hfz182_1
         try clear hfz182_2
         try clear hfz182_3
         try clear hfz183_0
         try clear hfz183_1
         try clear hfz183_2
         try clear hfz183_3
         try clear hfz184_0
         try clear hfz184_1
         try clear hfz184_2
         try clear hfz184_3
         try clear hfz184_4
         try clear hfz191_0
         try clear hfz191_1
         try clear hfz191_2
         try clear hfz191_3
         try clear hfz191_4
         try clear hfz194_0
         try clear hfz194_1
         try clear hfz194_2
         try clear hfz194_3
         try clear hfz195_0
         try clear hfz195_1
         try clear hfz195_2
         try clear hfz195_3
         try clear hfz196_0
         try clear hfz196_1
         try clear hfz196_2
         try clear hfz196_3
         try clear hfz196_4
         try clear hfz198_0
         try clear hfz198_1
         try clear hfz198_2
         try clear hfz198_3
         try clear hfz199_0
         try clear hfz199_1
         try clear hfz199_2
         try clear hfz199_3
         try clear hfz204_0
         try clear hfz204_1
         try clear hfz204_2
         try clear hfz204_3
         try clear hfz204_4
         try clear hfz207_0
         try clear hfz207_1
         try clear hfz207_2
         try clear hfz207_3
         try clear hfz208_0
         try clear hfz208_1
         try clear hfz208_2
         try clear hfz208_3
         try clear hfz209_0
         try clear hfz209_1
         try clear hfz209_2
         try clear hfz209_3
         try clear hfz209_4
         try clear hfz216_0
         try clear hfz216_1
         try clear hfz216_2
         try clear hfz216_3
         try clear hfz216_4
         try clear hfz219_0
         try clear hfz219_1
         try clear hfz219_2
         try clear hfz219_3
         try clear hfz221_0
         try clear hfz221_1
         try clear hfz221_2
         try clear hfz221_3
         try clear hfz222_0
         try clear hfz222_1
         try clear hfz222_2
         try clear hfz222_3
         try clear hfz64_1
         try clear hfz64_2
         try clear hfz64_3
         try clear hfz64_4
         try clear hfz78_0
         try clear hfz78_1
         try clear hfz78_2
         try clear hfz78_3
         try clear hfz78_4
         try clear hfz81_0
         try clear hfz81_1
         try clear hfz81_2
         try clear hfz81_3
         try clear hfz86_0
         try clear hfz86_1
         try clear hfz86_2
         try clear hfz86_3
         try clear hfz86_4
         try clear hfz90_0
         try clear hfz90_1
         try clear hfz90_2
         try clear hfz90_3
         try clear hfz90_4
         try clear hfz94_0
         try clear hfz94_1
         try clear hfz94_2
         try clear hfz94_3
         try clear hfz94_4
         try clear hfz98_0
         try clear hfz98_1
         try clear hfz98_2
         try clear hfz98_3
         try clear hfz98_4
         try clear hx174_0
         try clear hx174_1
         try clear hx174_2
         try clear hx185_0
         try clear p1
         try clear p17
         try clear p174
         try clear p2
         try clear p6
         try clear p64
         try clear q0165
         try clear q1
         try clear q16
         try clear q164
         try clear q165
         try clear q17
         try clear q174
         obtain ⟨x12_4, x162001_4, x162002_4, x162003_4, x173001_4, u162001, u162002, u173001, HA, HK4, HO_12, HO_162001, HO_162002, HO_173001, HO_173002, BK161, BK162, BK163, BK172, HB⟩ := hrel
         cases gk with
         | zero => exact absurd HA.out (by simp [impl_DoDesk.l0])
         | succ k4 =>
          have H := HA.out
          clear HA
          simp only [impl_DoDesk.l0] at H
          replace H := Option.bind_eq_some_iff.mp H
          obtain ⟨⟨t208, t209, t210⟩, A2240, H⟩ := H
          replace H : (if t210 = true then (if 0 ≤ t208 then (if t208 < (x162002_4.length : Int) then (if 0 ≤ t209 then (if t209 < (x162001_4.length : Int) then ((some (x162001_4.set (t209 : Int).toNat (⟨(rd_T41 x162001_4 t209).f0, (rd_T70 x162002_4 t208).f0, (rd_T41 x162001_4 t209).f2⟩ : S41) : List (S41))).bind fun y212 => (if x12_4.length < 17592186044416 then (if t208 ≤ (x162002_4.length : Int) then (if 0 ≤ (wrap64 (t208 + 1)) then (if (wrap64 (t208 + 1)) ≤ (x162002_4.length : Int) then (impl_DoDesk.l0 k4 (x12_4 ++ [(rd_T70 x162002_4 t208).f0]) a1_1 (y212.set (t209 : Int).toNat (⟨(rd_T41 y212 t209).f0, (rd_T41 y212 t209).f1, a1_1⟩ : S41)) (x162002_4.eraseIdx (t208 : Int).toNat) (wrap64 (x162003_4 + 1)) t164 x173001_4 t168 t171) else (none)) else (none)) else (none)) else (none))) else (none)) else (none)) else (none)) else (none)) else (if (x162002_4.length : Int) > 40 then (some (t164, x173001_4, t168, t171, ([] : List Int), 2)) else (if x162003_4 > 1000000 then (some (t164, x173001_4, t168, t171, ([] : List Int), 2)) else (some (a1_1, x162001_4, x162002_4, x162003_4, x12_4, 0))))) = some (r1, r2, r3, r4, r5, r6) := H
          have A224 := Aside0.mk A2240
          clear A2240
          by_cases c225 : t210 = true
          ·subst c225
           have H1 : (if 0 ≤ t208 then (if t208 < (x162002_4.length : Int) then (if 0 ≤ t209 then (if t209 < (x162001_4.length : Int) then ((some (x162001_4.set (t209 : Int).toNat (⟨(rd_T41 x162001_4 t209).f0, (rd_T70 x162002_4 t208).f0, (rd_T41 x162001_4 t209).f2⟩ : S41) : List (S41))).bind fun y212 => (if x12_4.length < 17592186044416 then (if t208 ≤ (x162002_4.length : Int) then (if 0 ≤ (wrap64 (t208 + 1)) then (if (wrap64 (t208 + 1)) ≤ (x162002_4.length : Int) then (impl_DoDesk.l0 k4 (x12_4 ++ [(rd_T70 x162002_4 t208).f0]) a1_1 (y212.set (t209 : Int).toNat (⟨(rd_T41 y212 t209).f0, (rd_T41 y212 t209).f1, a1_1⟩ : S41)) (x162002_4.eraseIdx (t208 : Int).toNat) (wrap64 (x162003_4 + 1)) t164 x173001_4 t168 t171) else (none)) else (none)) else (none)) else (none))) else (none)) else (none)) else (none)) else (none)) = some (r1, r2, r3, r4, r5, r6) := by rw [if_pos rfl] at H; exact H
           clear H
           have H := H1
           clear H1
           by_cases c226 : 0 ≤ t208
           ·rw [if_pos c226] at H
            have c226b0 : decide (0 ≤ t208) = true := decide_eq_true c226
            clear c226
            by_cases c227 : t208 < (x162002_4.length : Int)
            ·rw [if_pos c227] at H
             have c227b0 : decide (t208 < (x162002_4.length : Int)) = true := decide_eq_true c227
             clear c227
             by_cases c228 : 0 ≤ t209
             ·rw [if_pos c228] at H
              have c228b0 : decide (0 ≤ t209) = true := decide_eq_true c228
              clear c228
              by_cases c229 : t209 < (x162001_4.length : Int)
              ·rw [if_pos c229] at H
               have c229b0 : decide (t209 < (x162001_4.length : Int)) = true := decide_eq_true c229
               clear c229
               obtain ⟨y212, hy212⟩ : ∃ y_ : List (S41), y_ = (x162001_4.set (t209 : Int).toNat (⟨(rd_T41 x162001_4 t209).f0, (rd_T70 x162002_4 t208).f0, (rd_T41 x162001_4 t209).f2⟩ : S41)) := ⟨_, rfl⟩
               replace H : (if x12_4.length < 17592186044416 then (if t208 ≤ (x162002_4.length : Int) then (if 0 ≤ (wrap64 (t208 + 1)) then (if (wrap64 (t208 + 1)) ≤ (x162002_4.length : Int) then (impl_DoDesk.l0 k4 (x12_4 ++ [(rd_T70 x162002_4 t208).f0]) a1_1 (y212.set (t209 : Int).toNat (⟨(rd_T41 y212 t209).f0, (rd_T41 y212 t209).f1, a1_1⟩ : S41)) (x162002_4.eraseIdx (t208 : Int).toNat) (wrap64 (x162003_4 + 1)) t164 x173001_4 t168 t171) else (none)) else (none)) else (none)) else (none)) = some (r1, r2, r3, r4, r5, r6) := by first | (rw [hy212]; with_reducible exact H) | (have H2_ := (Option.bind_some _ _).symm.trans H; rw [hy212]; with_reducible exact H2_) | (have H2_ := (Option.bind_some _ _).symm.trans H; with_reducible exact H2_) | with_reducible exact H | (rw [hy212]; exact H) | exact H
               have Ny212 := Aside0.mk hy212
               clear hy212
               obtain ⟨y213, hy213⟩ : ∃ y_ : List (S41), y_ = (y212.set (t209 : Int).toNat (⟨(rd_T41 y212 t209).f0, (rd_T41 y212 t209).f1, a1_1⟩ : S41)) := ⟨_, rfl⟩
               replace H : (if x12_4.length < 17592186044416 then (if t208 ≤ (x162002_4.length : Int) then (if 0 ≤ (wrap64 (t208 + 1)) then (if (wrap64 (t208 + 1)) ≤ (x162002_4.length : Int) then (impl_DoDesk.l0 k4 (x12_4 ++ [(rd_T70 x162002_4 t208).f0]) a1_1 y213 (x162002_4.eraseIdx (t208 : Int).toNat) (wrap64 (x162003_4 + 1)) t164 x173001_4 t168 t171) else (none)) else (none)) else (none)) else (none)) = some (r1, r2, r3, r4, r5, r6) := by first | (rw [hy213]; with_reducible exact H) | (have H2_ := (Option.bind_some _ _).symm.trans H; rw [hy213]; with_reducible exact H2_) | (have H2_ := (Option.bind_some _ _).symm.trans H; with_reducible exact H2_) | with_reducible exact H | (rw [hy213]; exact H) | exact H
               have Ny213 := Aside0.mk hy213
               clear hy213
               by_cases c232 : x12_4.length < 17592186044416
               ·rw [if_pos c232] at H
                have LMc232 := Aside0.mk c232
                clear c232
                obtain ⟨y215, hy215⟩ : ∃ y_ : List Int, y_ = (x12_4 ++ [(rd_T70 x162002_4 t208).f0]) := ⟨_, rfl⟩
                replace H : (if t208 ≤ (x162002_4.length : Int) then (if 0 ≤ (wrap64 (t208 + 1)) then (if (wrap64 (t208 + 1)) ≤ (x162002_4.length : Int) then (impl_DoDesk.l0 k4 y215 a1_1 y213 (x162002_4.eraseIdx (t208 : Int).toNat) (wrap64 (x162003_4 + 1)) t164 x173001_4 t168 t171) else (none)) else (none)) else (none)) = some (r1, r2, r3, r4, r5, r6) := by first | (rw [hy215]; with_reducible exact H) | (have H2_ := (Option.bind_some _ _).symm.trans H; rw [hy215]; with_reducible exact H2_) | (have H2_ := (Option.bind_some _ _).symm.trans H; with_reducible exact H2_) | with_reducible exact H | (rw [hy215]; exact H) | exact H
                have Ny215 := Aside0.mk hy215
                clear hy215
                have c233b0 := eq_true (of_decide_eq_true (by first | (with_reducible assumption) | assumption) : 0 ≤ t208)
                by_cases c234 : t208 ≤ (x162002_4.length : Int)
                ·rw [if_pos c234] at H
                 have c234b0 := eq_true c234
                 have c234b1 : decide (t208 ≤ (x162002_4.length : Int)) = true := decide_eq_true c234
                 clear c234
                 obtain ⟨y218, hy218⟩ : ∃ y_ : List (S70), y_ = (x162002_4.take (t208 : Int).toNat) := ⟨_, rfl⟩
                 replace H : (if 0 ≤ (wrap64 (t208 + 1)) then (if (wrap64 (t208 + 1)) ≤ (x162002_4.length : Int) then (impl_DoDesk.l0 k4 y215 a1_1 y213 (x162002_4.eraseIdx (t208 : Int).toNat) (wrap64 (x162003_4 + 1)) t164 x173001_4 t168 t171) else (none)) else (none)) = some (r1, r2, r3, r4, r5, r6) := by first | (rw [hy218]; with_reducible exact H) | (have H2_ := (Option.bind_some _ _).symm.trans H; rw [hy218]; with_reducible exact H2_) | (have H2_ := (Option.bind_some _ _).symm.trans H; with_reducible exact H2_) | with_reducible exact H | (rw [hy218]; exact H) | exact H
                 have Ny218 := Aside0.mk hy218
                 clear hy218
                 obtain ⟨ji235, hji235⟩ : ∃ j_ : Int, (wrap64 (t208 + 1)) = j_ := ⟨_, rfl⟩
                 replace H : (if 0 ≤ (ji235) then (if (ji235) ≤ (x162002_4.length : Int) then (impl_DoDesk.l0 k4 y215 a1_1 y213 (x162002_4.eraseIdx (t208 : Int).toNat) (wrap64 (x162003_4 + 1)) t164 x173001_4 t168 t171) else (none)) else (none)) = some (r1, r2, r3, r4, r5, r6) := by first | (rw [hji235] at H; exact H) | (simp only [hji235] at H ⊢; exact H)
                 (try rw [hji235] at A224)
                 have hji235w : (IntKind.i64.wrap (t208 + 1)) = ji235 := (i64_w _).trans hji235
                 by_cases c236 : 0 ≤ (ji235)
                 ·rw [if_pos c236] at H
                  have c236b0 := eq_true c236
                  have c236b1 : decide (0 ≤ (ji235)) = true := decide_eq_true c236
                  clear c236
                  by_cases c237 : (ji235) ≤ (x162002_4.length : Int)
                  ·rw [if_pos c237] at H
                   have c237b0 := eq_true c237
                   have c237b1 : decide ((ji235) ≤ (x162002_4.length : Int)) = true := decide_eq_true c237
                   clear c237
                   obtain ⟨y222, hy222⟩ : ∃ y_ : List (S70), y_ = (x162002_4.drop ((ji235) : Int).toNat) := ⟨_, rfl⟩
                   replace H : (impl_DoDesk.l0 k4 y215 a1_1 y213 (x162002_4.eraseIdx (t208 : Int).toNat) (wrap64 (x162003_4 + 1)) t164 x173001_4 t168 t171) = some (r1, r2, r3, r4, r5, r6) := by first | (rw [hy222]; with_reducible exact H) | (have H2_ := (Option.bind_some _ _).symm.trans H; rw [hy222]; with_reducible exact H2_) | (have H2_ := (Option.bind_some _ _).symm.trans H; with_reducible exact H2_) | with_reducible exact H | (rw [hy222]; exact H) | exact H
                   have Ny222 := Aside0.mk hy222
                   clear hy222
                   obtain ⟨y226, hy226⟩ : ∃ y_ : List (S70), y_ = (x162002_4.eraseIdx (t208 : Int).toNat) := ⟨_, rfl⟩
                   replace H : (impl_DoDesk.l0 k4 y215 a1_1 y213 y226 (wrap64 (x162003_4 + 1)) t164 x173001_4 t168 t171) = some (r1, r2, r3, r4, r5, r6) := by first | (rw [hy226]; with_reducible exact H) | (have H2_ := (Option.bind_some _ _).symm.trans H; rw [hy226]; with_reducible exact H2_) | (have H2_ := (Option.bind_some _ _).symm.trans H; with_reducible exact H2_) | with_reducible exact H | (rw [hy226]; exact H) | exact H
                   have Ny226 := Aside0.mk hy226
                   clear hy226
                   as_aux_lemma =>
                    have H' := Aside0.mk H
                    clear H
                    have hnb238 := NB161_162.out
                    have hnc238 := NB162_161.out
                    have hnb239 := NB161_163.out
                    have hnc239 := NB163_161.out
                    have hnb240 := NB161_172.out
                    have hnc240 := NB172_161.out
                    have hcz241_0 := cz_ BK161.out 0 rfl
                    have hcz241_1 := cz_ BK161.out 1 rfl
                    have hcz241_2 := cz_ BK161.out 2 rfl
                    have hcz241_3 := cz_ BK161.out 3 rfl
                    have hfz241_0 := blk_frozen BK161.out 0
                    have hfz241_1 := blk_frozen BK161.out 1
                    have hfz241_2 := blk_frozen BK161.out 2
                    have hfz241_3 := blk_frozen BK161.out 3
                    obtain ⟨Ao242, co242, eo242⟩ := Kd.R_slice HO_162001.out
                    subst eo242
                    obtain ⟨Ao243, co243, eo243⟩ := Kd.R_slice HO_162002.out
                    subst eo243
                    try go_wp2_with (first | ((with_reducible refine gate_callee (f := 45) rfl ?_); refine goesL_ (some 184) rfl rfl Try.func45 (by kernel_rfl) rfl #[.agg #[.int .i64 a1_1, .slice Ao242 x162001_4.length co242, .slice Ao243 x162002_4.length co243, .int .i64 x162003_4]] rfl (by (try simp only [List.map_toArray, List.map_cons, List.map_nil]); first | done | rfl | (simp only [List.length_drop, List.length_take]; rfl)) ?_; (with_reducible refine (impl_Desk_next.calls k4 a1_1 _ _ x162001_4 _ _ x162002_4 x162003_4 t208 t209 true _ ?side1 ?side2 ?side3 ?side4 A224.out).mono ?_); (case side1 => repeat (first | exact (Kd.R_reads' HO_162001.out).2.2 | (with_reducible refine Kd.C_alloc ?_ _) | (with_reducible refine Kd.C_drewN ?_ _) | (with_reducible refine Kd.C_drew ?_))); (case side2 => exact (Kd.R_reads' HO_162001.out).2.1); (case side3 => repeat (first | exact (Kd.R_reads' HO_162002.out).2.2 | (with_reducible refine Kd.C_alloc ?_ _) | (with_reducible refine Kd.C_drewN ?_ _) | (with_reducible refine Kd.C_drew ?_))); (case side4 => exact (Kd.R_reads' HO_162002.out).2.1); rintro e w244 ⟨rfl, hb⟩; refine ⟨_, rfl, ?_⟩; have n0_ := Aside0.mk (Kd.R_below (by (with_reducible repeat (first | apply Kd.R_alloc | apply Kd.R_drewN | apply Kd.R_drew)); exact HO_12.out) hb); have n1_ := Aside0.mk (Kd.R_below (by (with_reducible repeat (first | apply Kd.R_alloc | apply Kd.R_drewN | apply Kd.R_drew)); exact HO_162001.out) hb); have n2_ := Aside0.mk (Kd.R_below (by (with_reducible repeat (first | apply Kd.R_alloc | apply Kd.R_drewN | apply Kd.R_drew)); exact HO_162002.out) hb); have n3_ := Aside0.mk (Kd.R_below (by (with_reducible repeat (first | apply Kd.R_alloc | apply Kd.R_drewN | apply Kd.R_drew)); exact HO_173001.out) hb); have n4_ := Aside0.mk (Kd.R_below (by (with_reducible repeat (first | apply Kd.R_alloc | apply Kd.R_drewN | apply Kd.R_drew)); exact HO_173002.out) hb); have n5_ := Aside0.mk (blkStep (g := gb161) hb); have n6_ := Aside0.mk (blkStep (g := gb162) hb); have n7_ := Aside0.mk (blkStep (g := gb163) hb); have n8_ := Aside0.mk (blkStep (g := gb172) hb); have n9_ := Aside0.mk (below_step belowNow hb); clear HO_12; clear HO_162001; clear HO_162002; clear HO_173001; clear HO_173002; clear BK161; clear BK162; clear BK163; clear BK172; clear HB; have HO_12 := n0_; have HO_162001 := n1_; have HO_162002 := n2_; have HO_173001 := n3_; have HO_173002 := n4_; have BK161 := n5_; have BK162 := n6_; have BK163 := n7_; have BK172 := n8_; have HB := n9_; clear n0_ n1_ n2_ n3_ n4_ n5_ n6_ n7_ n8_ n9_; (try clear hb); (try clear hb2); (try clear hk); (try clear hi)))
                    have n0_ := Aside0.mk (Kd.R_drew HO_12.out)
                    have n1_ := Aside0.mk (Kd.R_drew HO_162001.out)
                    have n2_ := Aside0.mk (Kd.R_drew HO_162002.out)
                    have n3_ := Aside0.mk (Kd.R_drew HO_173001.out)
                    have n4_ := Aside0.mk (Kd.R_drew HO_173002.out)
                    have n5_ := Aside0.mk (blk_drew BK161.out)
                    have n6_ := Aside0.mk (blk_drew BK162.out)
                    have n7_ := Aside0.mk (blk_drew BK163.out)
                    have n8_ := Aside0.mk (blk_drew BK172.out)
                    have n9_ := Aside0.mk (below_drew1 HB.out)
                    clear HO_12
                    clear HO_162001
                    clear HO_162002
                    clear HO_173001
                    clear HO_173002
                    clear BK161
                    clear BK162
                    clear BK163
                    clear BK172
                    clear HB
                    have HO_12 := n0_
                    have HO_162001 := n1_
                    have HO_162002 := n2_
                    have HO_173001 := n3_
                    have HO_173002 := n4_
                    have BK161 := n5_
                    have BK162 := n6_
                    have BK163 := n7_
                    have BK172 := n8_
                    have HB := n9_
                    clear n0_ n1_ n2_ n3_ n4_ n5_ n6_ n7_ n8_ n9_
                    have p211 : 0 ≤ (t208 : Int) := of_decide_eq_true (by first | (with_reducible assumption) | assumption)
                    have q211 : t208 < (x162002_4.length : Int) := of_decide_eq_true (by first | (with_reducible assumption) | assumption)
                    obtain ⟨ad211, e211, hx211_0, hx211_1, hx211_2, hx211_3⟩ := at_T70 (Kd.R_reads' HO_162002.out).2.2 t208 p211 q211
                    cases e211
                    replace p211 := eq_true p211
                    replace q211 := eq_true q211
                    have p230 : 0 ≤ (t209 : Int) := of_decide_eq_true (by first | (with_reducible assumption) | assumption)
                    have q230 : (t209 : Int) < ((x162001_4.length : Int) : Int) := of_decide_eq_true (by first | (with_reducible assumption) | assumption)
                    obtain ⟨go230, co230, eo230, gb230, gl230, cl230, HG230⟩ := Kd.R_form HO_162001.out (by omega)
                    (first | cases eo230 | (injection eo230 with ea_ en_ ec_; (first | subst ea_ | (injection ea_ with ea_; subst ea_)); subst ec_; clear en_))
                    have GB230 := Aside0.mk gb230
                    have GG230 := Aside0.mk HG230
                    clear gb230 gl230 HG230
                    obtain ⟨ce230, hcl230, hM230, hcc230, hfr230⟩ := Kd.R_elem HO_162001.out z41 (t209 : Int) p230 q230
                    obtain rfl := k41_openM hM230
                    have hx230_0 : World.cell? _ ⟨go230, (t209 : Int).toNat * 3, none⟩ = some (.int .i64 ((rd_T41 x162001_4 t209).f0)) := hcc230 0 _ rfl
                    have hx230_1 : World.cell? _ ⟨go230, (t209 : Int).toNat * 3 + 1, none⟩ = some (.int .i64 ((rd_T41 x162001_4 t209).f1)) := hcc230 1 _ rfl
                    have hx230_2 : World.cell? _ ⟨go230, (t209 : Int).toNat * 3 + 2, none⟩ = some (.int .i64 ((rd_T41 x162001_4 t209).f2)) := hcc230 2 _ rfl
                    have hf230_0 : World.frozen? _ ⟨go230, (t209 : Int).toNat * 3, none⟩ = false := hfr230 0
                    have hf230_1 : World.frozen? _ ⟨go230, (t209 : Int).toNat * 3 + 1, none⟩ = false := hfr230 1
                    have hf230_2 : World.frozen? _ ⟨go230, (t209 : Int).toNat * 3 + 2, none⟩ = false := hfr230 2
                    clear hcl230 hcc230 hfr230 hM230
                    replace p230 := eq_true p230
                    replace q230 := eq_true q230
                    obtain ⟨ce246, hcl246, hM246, hcc246, hfr246⟩ := Kd.R_elem HO_162001.out z41 (t209 : Int) (of_decide_eq_true (by first | (with_reducible assumption) | assumption)) (by have h_ : (t209 : Int) < ((x162001_4.length : Int) : Int) := of_decide_eq_true (by first | (with_reducible assumption) | assumption); first | exact h_ | (have e_ := (Kd.R_reads' HO_162001.out).1; omega) | simpa using h_)
                    obtain rfl := k41_openM hM246
                    have HP246 := (Kd.R_seg HO_162001.out (t209 : Int) (of_decide_eq_true (by first | (with_reducible assumption) | assumption)) (by have h_ : (t209 : Int) < ((x162001_4.length : Int) : Int) := of_decide_eq_true (by first | (with_reducible assumption) | assumption); first | exact h_ | (have e_ := (Kd.R_reads' HO_162001.out).1; omega) | simpa using h_) (seg := [.int .i64 ((rd_T70 x162002_4 t208).f0)]) (j := 1) hcl246 hcc246 (show 2 ≤ 3 from by decide) (x' := (⟨(rd_T41 x162001_4 t209).f0, (rd_T70 x162002_4 t208).f0, (rd_T41 x162001_4 t209).f2⟩ : S41)) (k41_mkM _ _ _ (⟨(rd_T41 x162001_4 t209).f0, (rd_T70 x162002_4 t208).f0, (rd_T41 x162001_4 t209).f2⟩ : S41) ) (fun _ hk => hk)).1
                    rw [← Ny212.out] at HP246
                    have HQ246 := Aside0.mk HP246
                    have hx246_0 : World.cell? _ ⟨go230, (t209 : Int).toNat * 3, none⟩ = some _ := hcc246 0 _ rfl
                    have hf246_0 : World.frozen? _ ⟨go230, (t209 : Int).toNat * 3, none⟩ = false := hfr246 0
                    have hx246_1 : World.cell? _ ⟨go230, (t209 : Int).toNat * 3 + 1, none⟩ = some _ := hcc246 1 _ rfl
                    have hf246_1 : World.frozen? _ ⟨go230, (t209 : Int).toNat * 3 + 1, none⟩ = false := hfr246 1
                    have hx246_2 : World.cell? _ ⟨go230, (t209 : Int).toNat * 3 + 2, none⟩ = some _ := hcc246 2 _ rfl
                    have hf246_2 : World.frozen? _ ⟨go230, (t209 : Int).toNat * 3 + 2, none⟩ = false := hfr246 2
                    clear hcl246 hcc246 hfr246 hM246 HP246
                    have p231 : 0 ≤ (t209 : Int) := of_decide_eq_true (by first | (with_reducible assumption) | assumption)
                    have q231 : (t209 : Int) < ((x162001_4.length : Int) : Int) := of_decide_eq_true (by first | (with_reducible assumption) | assumption)
                    replace p231 := eq_true p231
                    replace q231 := eq_true q231
                    obtain ⟨ce247, hcl247, hM247, hcc247, hfr247⟩ := Kd.R_elem HQ246.out z41 (t209 : Int) (of_decide_eq_true (by first | (with_reducible assumption) | assumption)) (by have h_ : (t209 : Int) < ((x162001_4.length : Int) : Int) := of_decide_eq_true (by first | (with_reducible assumption) | assumption); first | exact h_ | (have e_ := (Kd.R_reads' HO_162001.out).1; omega) | simpa using h_)
                    obtain rfl := k41_openM hM247
                    have HP247 := (Kd.R_seg HQ246.out (t209 : Int) (of_decide_eq_true (by first | (with_reducible assumption) | assumption)) (by have h_ : (t209 : Int) < ((x162001_4.length : Int) : Int) := of_decide_eq_true (by first | (with_reducible assumption) | assumption); first | exact h_ | (have e_ := (Kd.R_reads' HO_162001.out).1; omega) | simpa using h_) (seg := [.int .i64 a1_1]) (j := 2) hcl247 hcc247 (show 3 ≤ 3 from by decide) (x' := (⟨(rd_T41 y212 t209).f0, (rd_T41 y212 t209).f1, a1_1⟩ : S41)) (k41_mkM _ _ _ (⟨(rd_T41 y212 t209).f0, (rd_T41 y212 t209).f1, a1_1⟩ : S41) ) (fun _ hk => hk)).1
                    rw [← Ny213.out] at HP247
                    have HQ247 := Aside0.mk HP247
                    clear hcl247 hcc247 hfr247 hM247 HP247
                    refine start_ (n := 20) (S := fun w' => w'.cell? ⟨gb161, 0, none⟩ = some (.int .i64 a1_1) ∧ w'.cell? ⟨gb161, 1, none⟩ = some (.slice (some ⟨go230, 0, none⟩) x162001_4.length co242) ∧ w'.cell? ⟨gb161, 2, none⟩ = some (.slice (some ad211) x162002_4.length co243) ∧ w'.cell? ⟨gb161, 3, none⟩ = some (.int .i64 x162003_4) ∧ w'.cell? (ad211.add ((t208).toNat * 4)) = some (.int .i64 ((rd_T70 x162002_4 t208).f0)) ∧ w'.cell? ⟨(ad211.add ((t208).toNat * 4)).block, (ad211.add ((t208).toNat * 4)).off + 1, none⟩ = some (.int .i64 ((rd_T70 x162002_4 t208).f1)) ∧ w'.cell? ⟨(ad211.add ((t208).toNat * 4)).block, (ad211.add ((t208).toNat * 4)).off + 2, none⟩ = some (.int .i64 ((rd_T70 x162002_4 t208).f2)) ∧ w'.cell? ⟨(ad211.add ((t208).toNat * 4)).block, (ad211.add ((t208).toNat * 4)).off + 3, none⟩ = some (.int .i64 ((rd_T70 x162002_4 t208).f3))) (ds := [19]) #[false, false, false, false, false, false, false, false, false, false, false, false, false, false, false, false, false, false, false, false] (by kernel_rfl) rfl rfl ⟨(blk_cell BK161.out 0).trans rfl, (blk_cell BK161.out 1).trans rfl, (blk_cell BK161.out 2).trans rfl, (blk_cell BK161.out 3).trans rfl, hx211_0, hx211_1, hx211_2, hx211_3⟩ (fun hHeld => ?_); refine with_tabW impl_DoDesk.tab33 impl_DoDesk.bits33 (fun HT_ HW_ => ?_)
                    generalize w244.drew = w245 at hx246_0 hf246_0 hx246_1 hf246_1 hx246_2 hf246_2 HO_12 HO_162001 HO_162002 HO_173001 HO_173002 BK161 BK162 BK163 BK172 HB GG230 HQ246 HQ247 hf230_0 hf230_1 hf230_2 hx211_0 hx211_1 hx211_2 hx211_3 hx230_0 hx230_1 hx230_2 hHeld ⊢
                    refine pure_ (i := 0) (N := some 190) (v := ?_) (a' := ?_) #[true, false, false, false, false, false, false, false, false, false, false, false, false, false, false, false, false, false, false, false] rfl rfl (any_of HT_.out (by kernel_rfl)) (fun _ _ _ h => h) (Or.inl ⟨by rfl, ?_⟩) ?_ ?_
                    rotate_left
                    ·intro w'
                     go_simp
                     with_reducible rfl
                    rotate_left
                    ·simp only [Act.put, List.setIfInBounds_toArray, List.set_cons_zero, List.set_cons_succ, i64_w, i32_w]
                     rfl
                    refine pure_ (i := 2) (N := some 192) (v := ?_) (a' := ?_) #[true, false, true, false, false, false, false, false, false, false, false, false, false, false, false, false, false, false, false, false] rfl rfl (any_of HT_.out (by kernel_rfl)) (fun _ _ _ h => h) (Or.inl ⟨by rfl, ?_⟩) ?_ ?_
                    rotate_left
                    ·intro w'
                     go_simp
                     with_reducible rfl
                    rotate_left
                    ·simp only [Act.put, List.setIfInBounds_toArray, List.set_cons_zero, List.set_cons_succ, i64_w, i32_w]
                     rfl
                    refine pure_ (i := 3) (N := some 193) (v := ?_) (a' := ?_) #[true, false, true, true, false, false, false, false, false, false, false, false, false, false, false, false, false, false, false, false] rfl rfl (any_of HT_.out (by kernel_rfl)) (fun _ _ _ h => h) (Or.inl ⟨by rfl, ?_⟩) ?_ ?_
                    rotate_left
                    ·intro w'
                     go_simp
                     with_reducible rfl
                    rotate_left
                    ·simp only [Act.put, List.setIfInBounds_toArray, List.set_cons_zero, List.set_cons_succ, i64_w, i32_w]
                     rfl
                    refine pure_ (i := 5) (N := some 195) (v := ?_) (a' := ?_) #[true, false, true, true, false, true, false, false, false, false, false, false, false, false, false, false, false, false, false, false] rfl rfl (any_of HT_.out (by kernel_rfl)) (fun _ _ _ h => h) (Or.inl ⟨by rfl, ?_⟩) ?_ ?_
                    rotate_left
                    ·intro w'
                     go_simp
                     with_reducible rfl
                    rotate_left
                    ·simp only [Act.put, List.setIfInBounds_toArray, List.set_cons_zero, List.set_cons_succ, i64_w, i32_w]
                     rfl
                    refine pure_ (i := 6) (N := some 196) (v := ?_) (a' := ?_) #[true, false, true, true, false, true, true, false, false, false, false, false, false, false, false, false, false, false, false, false] rfl rfl (any_of HT_.out (by kernel_rfl)) (fun _ _ _ h => h) (Or.inl ⟨by rfl, ?_⟩) ?_ ?_
                    rotate_left
                    ·intro w'
                     go_simp
                     with_reducible rfl
                    rotate_left
                    ·simp only [Act.put, List.setIfInBounds_toArray, List.set_cons_zero, List.set_cons_succ, i64_w, i32_w]
                     rfl
                    refine pure_ (i := 8) (N := some 198) (v := ?_) (a' := ?_) #[true, false, true, true, false, true, true, false, true, false, false, false, false, false, false, false, false, false, false, false] rfl rfl (any_of HT_.out (by kernel_rfl)) (fun _ _ _ h => h) (Or.inl ⟨by rfl, ?_⟩) ?_ ?_
                    rotate_left
                    ·intro w'
                     go_simp
                     with_reducible rfl
                    rotate_left
                    ·simp only [Act.put, List.setIfInBounds_toArray, List.set_cons_zero, List.set_cons_succ, i64_w, i32_w]
                     rfl
                    refine pure_ (i := 12) (N := some 202) (v := ?_) (a' := ?_) #[true, false, true, true, false, true, true, false, true, false, false, false, true, false, false, false, false, false, false, false] rfl rfl (any_of HT_.out (by kernel_rfl)) (fun _ _ _ h => h) (Or.inl ⟨by rfl, ?_⟩) ?_ ?_
                    rotate_left
                    ·intro w'
                     go_simp
                     with_reducible rfl
                    rotate_left
                    ·simp only [Act.put, List.setIfInBounds_toArray, List.set_cons_zero, List.set_cons_succ, i64_w, i32_w]
                     rfl
                    refine take_ (i := 1) (N := some 191) (v := ?_) (a' := ?_) #[true, true, true, true, false, true, true, false, true, false, false, false, true, false, false, false, false, false, false, false] rfl rfl (take_ofW HT_.out HW_.out (by kernel_rfl)) (fun _ _ _ h => h) (Or.inl ⟨by rfl, ?_⟩) hHeld ?_ ?_
                    rotate_left
                    ·rintro w' ⟨s0, s1, s2, s3, s4, s5, s6, s7⟩
                     go_simp
                     with_reducible rfl
                    rotate_left
                    ·simp only [Act.put, List.setIfInBounds_toArray, List.set_cons_zero, List.set_cons_succ, i64_w, i32_w]
                     rfl
                    refine take_ (i := 4) (N := some 194) (v := ?_) (a' := ?_) #[true, true, true, true, true, true, true, false, true, false, false, false, true, false, false, false, false, false, false, false] rfl rfl (take_ofW HT_.out HW_.out (by kernel_rfl)) (fun _ _ _ h => h) (Or.inl ⟨by rfl, ?_⟩) hHeld ?_ ?_
                    rotate_left
                    ·rintro w' ⟨s0, s1, s2, s3, s4, s5, s6, s7⟩
                     go_simp
                     with_reducible rfl
                    rotate_left
                    ·simp only [Act.put, List.setIfInBounds_toArray, List.set_cons_zero, List.set_cons_succ, i64_w, i32_w]
                     rfl
                    refine take_ (i := 7) (N := some 197) (v := ?_) (a' := ?_) #[true, true, true, true, true, true, true, true, true, false, false, false, true, false, false, false, false, false, false, false] rfl rfl (take_ofW HT_.out HW_.out (by kernel_rfl)) (fun _ _ _ h => h) (Or.inl ⟨by rfl, ?_⟩) hHeld ?_ ?_
                    rotate_left
                    ·rintro w' ⟨s0, s1, s2, s3, s4, s5, s6, s7⟩
                     go_simp
                     with_reducible rfl
                    rotate_left
                    ·simp only [Act.put, List.setIfInBounds_toArray, List.set_cons_zero, List.set_cons_succ, i64_w, i32_w]
                     rfl
                    refine pure_ (i := 9) (N := some 199) (v := ?_) (a' := ?_) #[true, true, true, true, true, true, true, true, true, true, false, false, true, false, false, false, false, false, false, false] rfl rfl (any_of HT_.out (by kernel_rfl)) (fun _ _ _ h => h) (Or.inl ⟨by rfl, ?_⟩) ?_ ?_
                    rotate_left
                    ·intro w'
                     go_simp
                     with_reducible rfl
                    rotate_left
                    ·simp only [Act.put, List.setIfInBounds_toArray, List.set_cons_zero, List.set_cons_succ, i64_w, i32_w]
                     rfl
                    refine pure_ (i := 10) (N := some 200) (v := ?_) (a' := ?_) #[true, true, true, true, true, true, true, true, true, true, true, false, true, false, false, false, false, false, false, false] rfl rfl (any_of HT_.out (by kernel_rfl)) (fun _ _ _ h => h) (Or.inl ⟨by rfl, ?_⟩) ?_ ?_
                    rotate_left
                    ·intro w'
                     go_simp
                     with_reducible rfl
                    rotate_left
                    ·simp only [Act.put, List.setIfInBounds_toArray, List.set_cons_zero, List.set_cons_succ, i64_w, i32_w]
                     rfl
                    refine take_ (i := 11) (N := some 201) (v := ?_) (a' := ?_) #[true, true, true, true, true, true, true, true, true, true, true, true, true, false, false, false, false, false, false, false] rfl rfl (take_ofW HT_.out HW_.out (by kernel_rfl)) (fun _ _ _ h => h) (Or.inl ⟨by rfl, ?_⟩) hHeld ?_ ?_
                    rotate_left
                    ·rintro w' ⟨s0, s1, s2, s3, s4, s5, s6, s7⟩
                     go_simp
                     with_reducible rfl
                    rotate_left
                    ·simp only [Act.put, List.setIfInBounds_toArray, List.set_cons_zero, List.set_cons_succ, i64_w, i32_w]
                     rfl
                    refine pure_ (i := 14) (N := some 204) (v := ?_) (a' := ?_) #[true, true, true, true, true, true, true, true, true, true, true, true, true, false, true, false, false, false, false, false] rfl rfl (any_of HT_.out (by kernel_rfl)) (fun _ _ _ h => h) (Or.inl ⟨by rfl, ?_⟩) ?_ ?_
                    rotate_left
                    ·intro w'
                     go_simp
                     with_reducible rfl
                    rotate_left
                    ·simp only [Act.put, List.setIfInBounds_toArray, List.set_cons_zero, List.set_cons_succ, i64_w, i32_w]
                     rfl
                    refine pure_ (i := 15) (N := some 205) (v := ?_) (a' := ?_) #[true, true, true, true, true, true, true, true, true, true, true, true, true, false, true, true, false, false, false, false] rfl rfl (any_of HT_.out (by kernel_rfl)) (fun _ _ _ h => h) (Or.inl ⟨by rfl, ?_⟩) ?_ ?_
                    rotate_left
                    ·intro w'
                     go_simp
                     with_reducible rfl
                    rotate_left
                    ·simp only [Act.put, List.setIfInBounds_toArray, List.set_cons_zero, List.set_cons_succ, i64_w, i32_w]
                     rfl
                    refine take_ (i := 13) (N := some 203) (v := ?_) (a' := ?_) #[true, true, true, true, true, true, true, true, true, true, true, true, true, true, true, true, false, false, false, false] rfl rfl (take_ofW HT_.out HW_.out (by kernel_rfl)) (fun _ _ _ h => h) (Or.inl ⟨by rfl, ?_⟩) hHeld ?_ ?_
                    rotate_left
                    ·rintro w' ⟨s0, s1, s2, s3, s4, s5, s6, s7⟩
                     go_simp
                     with_reducible rfl
                    rotate_left
                    ·simp only [Act.put, List.setIfInBounds_toArray, List.set_cons_zero, List.set_cons_succ, i64_w, i32_w]
                     rfl
                    refine one_ (i := 16) (N := none) #[true, true, true, true, true, true, true, true, true, true, true, true, true, true, true, true, true, false, false, false] rfl rfl (one_of HT_.out (by kernel_rfl)) (by decide) (fun K hK => ?_)
                    refine skip_ (w1 := ?_) (by rfl) rfl ?_ ?_
                    rotate_left
                    ·go_simp
                     rfl
                    refine hK.out _ _ ⟨(cell_far (blk_ne BK161.out GG230.out (by decide)) _).trans hHeld.1, (cell_far (blk_ne BK161.out GG230.out (by decide)) _).trans hHeld.2.1, (cell_far (blk_ne BK161.out GG230.out (by decide)) _).trans hHeld.2.2.1, (cell_far (blk_ne BK161.out GG230.out (by decide)) _).trans hHeld.2.2.2.1, (cell_far (fun e_ => Kd.R_ne HO_162002.out GG230.out (by decide) (by exact congrArg some (e_.symm.trans (impl_DoDesk_2.add_blk _ _)))) _).trans hHeld.2.2.2.2.1, (cell_far (fun e_ => Kd.R_ne HO_162002.out GG230.out (by decide) (by exact congrArg some (e_.symm.trans (impl_DoDesk_2.add_blk _ _)))) _).trans hHeld.2.2.2.2.2.1, (cell_far (fun e_ => Kd.R_ne HO_162002.out GG230.out (by decide) (by exact congrArg some (e_.symm.trans (impl_DoDesk_2.add_blk _ _)))) _).trans hHeld.2.2.2.2.2.2.1, (cell_far (fun e_ => Kd.R_ne HO_162002.out GG230.out (by decide) (by exact congrArg some (e_.symm.trans (impl_DoDesk_2.add_blk _ _)))) _).trans hHeld.2.2.2.2.2.2.2⟩ (fun hHeld => ?_)
                    clear hK K
                    refine pure_ (i := 17) (N := some 206) (v := ?_) (a' := ?_) #[true, true, true, true, true, true, true, true, true, true, true, true, true, true, true, true, true, true, false, false] rfl rfl (any_of HT_.out (by kernel_rfl)) (fun _ _ _ h => h) (Or.inl ⟨by rfl, ?_⟩) ?_ ?_
                    rotate_left
                    ·intro w'
                     go_simp
                     with_reducible rfl
                    rotate_left
                    ·simp only [Act.put, List.setIfInBounds_toArray, List.set_cons_zero, List.set_cons_succ, i64_w, i32_w]
                     rfl
                    refine pure_ (i := 18) (N := some 207) (v := ?_) (a' := ?_) #[true, true, true, true, true, true, true, true, true, true, true, true, true, true, true, true, true, true, true, false] rfl rfl (any_of HT_.out (by kernel_rfl)) (fun _ _ _ h => h) (Or.inl ⟨by rfl, ?_⟩) ?_ ?_
                    rotate_left
                    ·intro w'
                     go_simp
                     with_reducible rfl
                    rotate_left
                    ·simp only [Act.put, List.setIfInBounds_toArray, List.set_cons_zero, List.set_cons_succ, i64_w, i32_w]
                     rfl
                    refine last_ (i := 19) (N := none) #[true, true, true, true, true, true, true, true, true, true, true, true, true, true, true, true, true, true, true, true] rfl rfl (one_of HT_.out (by kernel_rfl)) (by decide) (fun K hK => ?_)
                    refine skip_ (w1 := ?_) (by rfl) rfl ?_ ?_
                    rotate_left
                    ·go_simp
                     rfl
                    refine hK.out _ _ ?_
                    clear hK K
                    refine done_ (done_of HT_.out (by kernel_rfl)) ?_
                    have n0_ : Aside0 (Kd.R (Kd.int .i64) 3 ((w245.setCell ⟨go230, (t209 : Int).toNat * 3 + 1, none⟩ (.int .i64 ((rd_T70 x162002_4 t208).f0))).setCell ⟨go230, (t209 : Int).toNat * 3 + 2, none⟩ (.int .i64 a1_1)) w.heap.size (fun _ => True) u12 x12_4) := ⟨by (with_reducible repeat (first | apply Kd.R_alloc | apply Kd.R_drewN | apply Kd.R_drew)); exact Kd.R_mono (Kd.R_far (p := ⟨go230, (t209 : Int).toNat * 3 + 2, none⟩) (Kd.R_far (p := ⟨go230, (t209 : Int).toNat * 3 + 1, none⟩) (Kd.R_types HO_12.out GG230.out (by decide)) (fun _ hk => hk.2) (.int .i64 ((rd_T70 x162002_4 t208).f0))) (fun _ hk => hk.2) (.int .i64 a1_1)) (fun _ hk => trivial)⟩
                    have n1_ : Aside0 (Kd.R k41 41 ((w245.setCell ⟨go230, (t209 : Int).toNat * 3 + 1, none⟩ (.int .i64 ((rd_T70 x162002_4 t208).f0))).setCell ⟨go230, (t209 : Int).toNat * 3 + 2, none⟩ (.int .i64 a1_1)) w.heap.size (fun k_ => some k_ ≠ (u173001 : Value).ownBlock) (.slice (some ⟨go230, 0, none⟩) x162001_4.length co242) y213) := ⟨by (with_reducible repeat (first | apply Kd.R_alloc | apply Kd.R_drewN | apply Kd.R_drew)); exact HQ247.out⟩
                    have n2_ : Aside0 (Kd.R k70 70 ((w245.setCell ⟨go230, (t209 : Int).toNat * 3 + 1, none⟩ (.int .i64 ((rd_T70 x162002_4 t208).f0))).setCell ⟨go230, (t209 : Int).toNat * 3 + 2, none⟩ (.int .i64 a1_1)) w.heap.size (fun k_ => some k_ ≠ (.slice Ao19 t168.length co19 : Value).ownBlock) (.slice (some ad211) x162002_4.length co243) x162002_4) := ⟨by (with_reducible repeat (first | apply Kd.R_alloc | apply Kd.R_drewN | apply Kd.R_drew)); exact Kd.R_mono (Kd.R_far (p := ⟨go230, (t209 : Int).toNat * 3 + 2, none⟩) (Kd.R_far (p := ⟨go230, (t209 : Int).toNat * 3 + 1, none⟩) (Kd.R_types HO_162002.out GG230.out (by decide)) (fun _ hk => hk.2) (.int .i64 ((rd_T70 x162002_4 t208).f0))) (fun _ hk => hk.2) (.int .i64 a1_1)) (fun _ hk => hk.1)⟩
                    have n3_ : Aside0 (Kd.R k41 41 ((w245.setCell ⟨go230, (t209 : Int).toNat * 3 + 1, none⟩ (.int .i64 ((rd_T70 x162002_4 t208).f0))).setCell ⟨go230, (t209 : Int).toNat * 3 + 2, none⟩ (.int .i64 a1_1)) w.heap.size (fun k_ => some k_ ≠ (.slice (some ⟨go230, 0, none⟩) x162001_4.length co242 : Value).ownBlock) u173001 x173001_4) := ⟨by (with_reducible repeat (first | apply Kd.R_alloc | apply Kd.R_drewN | apply Kd.R_drew)); exact Kd.R_mono (Kd.R_far (p := ⟨go230, (t209 : Int).toNat * 3 + 2, none⟩) (Kd.R_far (p := ⟨go230, (t209 : Int).toNat * 3 + 1, none⟩) (Kd.R_mono HO_173001.out (fun k_ hk => (⟨hk, fun e_ => hk (by rw [e_]; rfl)⟩ : _ ∧ k_ ≠ go230))) (fun _ hk => hk.2) (.int .i64 ((rd_T70 x162002_4 t208).f0))) (fun _ hk => hk.2) (.int .i64 a1_1)) (fun _ hk => hk.1)⟩
                    have n4_ : Aside0 (Kd.R k70 70 ((w245.setCell ⟨go230, (t209 : Int).toNat * 3 + 1, none⟩ (.int .i64 ((rd_T70 x162002_4 t208).f0))).setCell ⟨go230, (t209 : Int).toNat * 3 + 2, none⟩ (.int .i64 a1_1)) w.heap.size (fun k_ => some k_ ≠ (.slice (some ad211) x162002_4.length co243 : Value).ownBlock) (.slice Ao19 t168.length co19) t168) := ⟨by (with_reducible repeat (first | apply Kd.R_alloc | apply Kd.R_drewN | apply Kd.R_drew)); exact Kd.R_mono (Kd.R_far (p := ⟨go230, (t209 : Int).toNat * 3 + 2, none⟩) (Kd.R_far (p := ⟨go230, (t209 : Int).toNat * 3 + 1, none⟩) (Kd.R_types HO_173002.out GG230.out (by decide)) (fun _ hk => hk.2) (.int .i64 ((rd_T70 x162002_4 t208).f0))) (fun _ hk => hk.2) (.int .i64 a1_1)) (fun _ hk => hk.1)⟩
                    have n5_ : Aside0 (((w245.setCell ⟨go230, (t209 : Int).toNat * 3 + 1, none⟩ (.int .i64 ((rd_T70 x162002_4 t208).f0))).setCell ⟨go230, (t209 : Int).toNat * 3 + 2, none⟩ (.int .i64 a1_1)).heap[gb161]? = some (.cells #[.int .i64 a1_1, .slice (some ⟨go230, 0, none⟩) x162001_4.length co242, .slice (some ad211) x162002_4.length co243, .int .i64 x162003_4] 31 (0, 0))) := ⟨by (with_reducible repeat (first | refine blk_drewN ?_ _ | refine blk_drew ?_ | refine blk_alloc ?_ _)); refine blk_far ?_ (by have h_ := Kd.R_ne HO_162001.out BK161.out (by decide); intro e_; exact h_ (by rw [e_]; rfl)) _; (with_reducible repeat (first | refine blk_drewN ?_ _ | refine blk_drew ?_ | refine blk_alloc ?_ _)); refine blk_far ?_ (by have h_ := Kd.R_ne HO_162001.out BK161.out (by decide); intro e_; exact h_ (by rw [e_]; rfl)) _; (with_reducible repeat (first | refine blk_drewN ?_ _ | refine blk_drew ?_ | refine blk_alloc ?_ _)); exact BK161.out⟩
                    have n6_ : Aside0 (((w245.setCell ⟨go230, (t209 : Int).toNat * 3 + 1, none⟩ (.int .i64 ((rd_T70 x162002_4 t208).f0))).setCell ⟨go230, (t209 : Int).toNat * 3 + 2, none⟩ (.int .i64 a1_1)).heap[gb162]? = some (.cells #[.int .i64 a1_0, .int .i64 a1_1, .int .i64 a1_2, .int .i64 a1_3, .int .i64 a1_4] 47 (0, 0))) := ⟨by (with_reducible repeat (first | refine blk_drewN ?_ _ | refine blk_drew ?_ | refine blk_alloc ?_ _)); refine blk_far ?_ (by have h_ := Kd.R_ne HO_162001.out BK162.out (by decide); intro e_; exact h_ (by rw [e_]; rfl)) _; (with_reducible repeat (first | refine blk_drewN ?_ _ | refine blk_drew ?_ | refine blk_alloc ?_ _)); refine blk_far ?_ (by have h_ := Kd.R_ne HO_162001.out BK162.out (by decide); intro e_; exact h_ (by rw [e_]; rfl)) _; (with_reducible repeat (first | refine blk_drewN ?_ _ | refine blk_drew ?_ | refine blk_alloc ?_ _)); exact BK162.out⟩
                    have n7_ : Aside0 (((w245.setCell ⟨go230, (t209 : Int).toNat * 3 + 1, none⟩ (.int .i64 ((rd_T70 x162002_4 t208).f0))).setCell ⟨go230, (t209 : Int).toNat * 3 + 2, none⟩ (.int .i64 a1_1)).heap[gb163]? = some (.cells #[.int .i64 x164000_121, .slice none 0 0, .slice none 0 0, .int .i64 x164003_121] 31 (0, 0))) := ⟨by (with_reducible repeat (first | refine blk_drewN ?_ _ | refine blk_drew ?_ | refine blk_alloc ?_ _)); refine blk_far ?_ (by have h_ := Kd.R_ne HO_162001.out BK163.out (by decide); intro e_; exact h_ (by rw [e_]; rfl)) _; (with_reducible repeat (first | refine blk_drewN ?_ _ | refine blk_drew ?_ | refine blk_alloc ?_ _)); refine blk_far ?_ (by have h_ := Kd.R_ne HO_162001.out BK163.out (by decide); intro e_; exact h_ (by rw [e_]; rfl)) _; (with_reducible repeat (first | refine blk_drewN ?_ _ | refine blk_drew ?_ | refine blk_alloc ?_ _)); exact BK163.out⟩
                    have n8_ : Aside0 (((w245.setCell ⟨go230, (t209 : Int).toNat * 3 + 1, none⟩ (.int .i64 ((rd_T70 x162002_4 t208).f0))).setCell ⟨go230, (t209 : Int).toNat * 3 + 2, none⟩ (.int .i64 a1_1)).heap[gb172]? = some (.cells #[.int .i64 t164, u173001, .slice Ao19 t168.length co19, .int .i64 t171] 31 (0, 0))) := ⟨by (with_reducible repeat (first | refine blk_drewN ?_ _ | refine blk_drew ?_ | refine blk_alloc ?_ _)); refine blk_far ?_ (by have h_ := Kd.R_ne HO_162001.out BK172.out (by decide); intro e_; exact h_ (by rw [e_]; rfl)) _; (with_reducible repeat (first | refine blk_drewN ?_ _ | refine blk_drew ?_ | refine blk_alloc ?_ _)); refine blk_far ?_ (by have h_ := Kd.R_ne HO_162001.out BK172.out (by decide); intro e_; exact h_ (by rw [e_]; rfl)) _; (with_reducible repeat (first | refine blk_drewN ?_ _ | refine blk_drew ?_ | refine blk_alloc ?_ _)); exact BK172.out⟩
                    have n9_ : Aside0 (Below w.heap.size w ((w245.setCell ⟨go230, (t209 : Int).toNat * 3 + 1, none⟩ (.int .i64 ((rd_T70 x162002_4 t208).f0))).setCell ⟨go230, (t209 : Int).toNat * 3 + 2, none⟩ (.int .i64 a1_1))) := ⟨by repeat (first | (with_reducible first | exact HB.out | apply below_alloc | apply pw_below_drewN | apply below_drew1 | refine below_set ?_ GB230.out | refine below_set ?_ GB230.out | refine below_set ?_ GE161.out | refine below_set ?_ GE162.out | refine below_set ?_ GE163.out | refine below_set ?_ GE172.out) | exact HB.out)⟩
                    (try clear HO_12)
                    (try clear HO_162001)
                    (try clear HO_162002)
                    (try clear HO_173001)
                    (try clear HO_173002)
                    (try clear BK161)
                    (try clear BK162)
                    (try clear BK163)
                    (try clear BK172)
                    (try clear HB)
                    generalize ((w245.setCell ⟨go230, (t209 : Int).toNat * 3 + 1, none⟩ (.int .i64 ((rd_T70 x162002_4 t208).f0))).setCell ⟨go230, (t209 : Int).toNat * 3 + 2, none⟩ (.int .i64 a1_1)) = w248 at n0_ n1_ n2_ n3_ n4_ n5_ n6_ n7_ n8_ n9_ ⊢
                    have HO_12 := n0_
                    have HO_162001 := n1_
                    have HO_162002 := n2_
                    have HO_173001 := n3_
                    have HO_173002 := n4_
                    have BK161 := n5_
                    have BK162 := n6_
                    have BK163 := n7_
                    have BK172 := n8_
                    have HB := n9_
                    clear n0_ n1_ n2_ n3_ n4_ n5_ n6_ n7_ n8_ n9_
                    have hcz249_0 := cz_ BK161.out 0 rfl
                    have hcz249_1 := cz_ BK161.out 1 rfl
                    have hcz249_2 := cz_ BK161.out 2 rfl
                    have hcz249_3 := cz_ BK161.out 3 rfl
                    have hfz249_0 := blk_frozen BK161.out 0
                    have hfz249_1 := blk_frozen BK161.out 1
                    have hfz249_2 := blk_frozen BK161.out 2
                    have hfz249_3 := blk_frozen BK161.out 3
                    have p214 : 0 ≤ (t208 : Int) := of_decide_eq_true (by first | (with_reducible assumption) | assumption)
                    have q214 : t208 < (x162002_4.length : Int) := of_decide_eq_true (by first | (with_reducible assumption) | assumption)
                    obtain ⟨ad214, e214, hx214_0, hx214_1, hx214_2, hx214_3⟩ := at_T70 (Kd.R_reads' HO_162002.out).2.2 t208 p214 q214
                    obtain rfl : ad211 = ad214 := (by injection e214)
                    replace p214 := eq_true p214
                    replace q214 := eq_true q214
                    try go_wp2_with (first | ((with_reducible refine gate_builtin (b := .append) (xs := #[.tmp 208, .tmp 215]) rfl ?_); at_builtin; refine Kd.R_append (Kd.int .i64) (w0 := w) w.heap.size rfl (.tmp 208) (.tmp 215) 43 3 (.int .i64 0) 8 rfl Try.underlying43 info3 rfl (by decide) (by omega) u12 x12_4 ((rd_T70 x162002_4 t208).f0) [.int .i64 ((rd_T70 x162002_4 t208).f0)] (fun _ => True) (fun _ => False) rfl rfl ?aP (fun _ hk => hk.elim) ?aF ?aO ?aB ?aS ?aL ?_; (case aP => exact rfl); (case aB => exact belowNow); (case aF => exact (fun _ _ => trivial)); (case aO => exact (by (with_reducible repeat (first | apply Kd.R_alloc | apply Kd.R_drewN | apply Kd.R_drew)); exact HO_12.out)); (case aS => exact (below_size belowNow)); (case aL => have := LMc232.out; omega); intro v216 w250 ho hb hg hat; rw [← Ny215.out] at ho; have n0_ := Aside0.mk (Kd.R_over' (by (with_reducible repeat (first | apply Kd.R_alloc | apply Kd.R_drewN | apply Kd.R_drew)); exact HO_162001.out) (Kd.R_typed (by (with_reducible repeat (first | apply Kd.R_alloc | apply Kd.R_drewN | apply Kd.R_drew)); exact HO_12.out)) (by decide) hg); have n1_ := Aside0.mk (Kd.R_over' (by (with_reducible repeat (first | apply Kd.R_alloc | apply Kd.R_drewN | apply Kd.R_drew)); exact HO_162002.out) (Kd.R_typed (by (with_reducible repeat (first | apply Kd.R_alloc | apply Kd.R_drewN | apply Kd.R_drew)); exact HO_12.out)) (by decide) hg); have n2_ := Aside0.mk (Kd.R_over' (by (with_reducible repeat (first | apply Kd.R_alloc | apply Kd.R_drewN | apply Kd.R_drew)); exact HO_173001.out) (Kd.R_typed (by (with_reducible repeat (first | apply Kd.R_alloc | apply Kd.R_drewN | apply Kd.R_drew)); exact HO_12.out)) (by decide) hg); have n3_ := Aside0.mk (Kd.R_over' (by (with_reducible repeat (first | apply Kd.R_alloc | apply Kd.R_drewN | apply Kd.R_drew)); exact HO_173002.out) (Kd.R_typed (by (with_reducible repeat (first | apply Kd.R_alloc | apply Kd.R_drewN | apply Kd.R_drew)); exact HO_12.out)) (by decide) hg); have n4_ := Aside0.mk (blk_grown (g := gb161) (o := .cells #[.int .i64 a1_1, .slice (some ⟨go230, 0, none⟩) x162001_4.length co242, .slice (some ad211) x162002_4.length co243, .int .i64 x162003_4] 31 (0, 0)) blkNow hg (Kd.R_ne HO_12.out BK161.out (by decide))); have n5_ := Aside0.mk (blk_grown (g := gb162) (o := .cells #[.int .i64 a1_0, .int .i64 a1_1, .int .i64 a1_2, .int .i64 a1_3, .int .i64 a1_4] 47 (0, 0)) blkNow hg (Kd.R_ne HO_12.out BK162.out (by decide))); have n6_ := Aside0.mk (blk_grown (g := gb163) (o := .cells #[.int .i64 x164000_121, .slice none 0 0, .slice none 0 0, .int .i64 x164003_121] 31 (0, 0)) blkNow hg (Kd.R_ne HO_12.out BK163.out (by decide))); have n7_ := Aside0.mk (blk_grown (g := gb172) (o := .cells #[.int .i64 t164, u173001, .slice Ao19 t168.length co19, .int .i64 t171] 31 (0, 0)) blkNow hg (Kd.R_ne HO_12.out BK172.out (by decide))); have n8_ := Aside0.mk (hb); have n9_ := Aside0.mk (ho); clear HO_162001; clear HO_162002; clear HO_173001; clear HO_173002; clear BK161; clear BK162; clear BK163; clear BK172; clear HB; clear HO_12; have HO_162001 := n0_; have HO_162002 := n1_; have HO_173001 := n2_; have HO_173002 := n3_; have BK161 := n4_; have BK162 := n5_; have BK163 := n6_; have BK172 := n7_; have HB := n8_; have HO217 := n9_; clear n0_ n1_ n2_ n3_ n4_ n5_ n6_ n7_ n8_ n9_; clear ho hb hg hat; have hcz251_0 : w250.cell? ⟨gb161, 0, none⟩ = some (.int .i64 a1_1) := (blk_cell BK161.out 0).trans rfl; have hcz251_1 : w250.cell? ⟨gb161, 1, none⟩ = some (.slice (some ⟨go230, 0, none⟩) x162001_4.length co242) := (blk_cell BK161.out 1).trans rfl; have hcz251_2 : w250.cell? ⟨gb161, 2, none⟩ = some (.slice (some ad211) x162002_4.length co243) := (blk_cell BK161.out 2).trans rfl; have hcz251_3 : w250.cell? ⟨gb161, 3, none⟩ = some (.int .i64 x162003_4) := (blk_cell BK161.out 3).trans rfl; have hfz251_0 := blk_frozen BK161.out 0; have hfz251_1 := blk_frozen BK161.out 1; have hfz251_2 := blk_frozen BK161.out 2; have hfz251_3 := blk_frozen BK161.out 3; have q252 : (t208 : Int) ≤ ((x162002_4.length : Int) : Int) := of_decide_eq_true (by first | (with_reducible assumption) | assumption); obtain ⟨i0252, hi0252, _, hsz252, _⟩ := info_parts info70; have hroom252 : x162002_4.length ≤ co243 := (Kd.R_reads' HO_162002.out).2.1; have hC252 : Kd.C k70 _ (some ad211) x162002_4.length x162002_4 := (Kd.R_reads' HO_162002.out).2.2; have hcut252 := cut_to (P := Try.prog) 29 70 .i64 Try.underlying29 hi0252 (some ad211) x162002_4.length co243 t208 (of_decide_eq_true (by first | (with_reducible assumption) | assumption)) q252 hroom252; have hr252 := Kd.C_take (m := (t208 : Int).toNat) hC252 (by omega); have hy252 : y218.length = (t208 : Int).toNat := (by rw [Ny218.out, List.length_take]; omega); rw [← Ny218.out] at hr252; rw [← hy252] at hcut252; have HR221 := Aside0.mk hr252; have HC221 := Aside0.mk (show y218.length ≤ co243 from by omega); clear hr252 hC252 hroom252 hi0252 hsz252; have KY252 := Aside0.mk hy252; clear hy252; have KL252 := Aside0.mk (show (t208 : Int).toNat ≤ x162002_4.length from by omega); replace q252 := eq_true q252; have q253 : ((ji235) : Int) ≤ ((x162002_4.length : Int) : Int) := of_decide_eq_true (by first | (with_reducible assumption) | assumption); obtain ⟨i0253, hi0253, _, hsz253, _⟩ := info_parts info70; have hroom253 : x162002_4.length ≤ co243 := (Kd.R_reads' HO_162002.out).2.1; have hC253 : Kd.C k70 _ (some ad211) x162002_4.length x162002_4 := (Kd.R_reads' HO_162002.out).2.2; have q0253 : (0 : Int) ≤ ((ji235) : Int) := of_decide_eq_true (by first | (with_reducible assumption) | assumption); have hcut253 := cut_from (P := Try.prog) 29 70 .i64 Try.underlying29 hi0253 4 hsz253 (some ad211) x162002_4.length co243 (ji235) q0253 q253; have hr253 := Kd.C_drop (m := ((ji235) : Int).toNat) (c := co243) hC253 (by omega) hroom253; obtain ⟨A253, hA253⟩ : ∃ A1, A1 = (if co243 = ((ji235) : Int).toNat then (some ad211) else ((some ad211) : Option Addr).map (·.add (((ji235) : Int).toNat * 4))) := ⟨_, rfl⟩; obtain ⟨c253, hc253⟩ : ∃ c1, c1 = co243 - ((ji235) : Int).toNat := ⟨_, rfl⟩; have hy253 : y222.length = x162002_4.length - ((ji235) : Int).toNat := (by rw [Ny222.out, List.length_drop] <;> omega); rw [show (x162002_4).drop ((ji235) : Int).toNat = y222 from Ny222.out.symm] at hr253; replace hr253 : Kd.C k70 _ A253 y222.length y222 := (by rw [hA253]; exact hr253); rw [← hy253, ← hA253, ← hc253] at hcut253; have HR225 := Aside0.mk hr253; have HC225 := Aside0.mk (show y222.length ≤ c253 from by rw [hy253, hc253]; exact Nat.sub_le_sub_right hroom253 _); clear hr253 hC253 hroom253 hi0253 hsz253 hc253; have KY253 := Aside0.mk hy253; have KA253 := Aside0.mk hA253; clear hy253 hA253; have KL253 := Aside0.mk (show ((ji235) : Int).toNat ≤ x162002_4.length from by omega); replace q253 := eq_true q253) | (go_at_call 54; have hj_ : 0 ≤ (t208 : Int) := of_decide_eq_true (by first | (with_reducible assumption) | assumption); have hl_ : (ji235 : Int) ≤ (x162002_4.length : Int) := of_decide_eq_true (by first | (with_reducible assumption) | assumption); have hh_ : (t208 : Int) ≤ (x162002_4.length : Int) := of_decide_eq_true (by first | (with_reducible assumption) | assumption); have hb_ := (Kd.R_reads' HO_162002.out).2.2.2.1; have h0_ : (0 : Int) ≤ (ji235 : Int) := of_decide_eq_true (by first | (with_reducible assumption) | assumption); have hy1_ := KY252.out; have hk_ : (ji235 : Int).toNat = y218.length + 1 := (by have hw_ : (ji235 : Int) = t208 + 1 := (by have h00_ := h0_; rw [← hji235] at h00_ ⊢; unfold wrap64 at h00_ ⊢; omega); rw [hw_]; omega); obtain ⟨gd255, cap_, ev_, _⟩ := Kd.R_form HO_162002.out (by omega); injection ev_ with ea_ _ _; (first | subst ea_ | (injection ea_ with eb_; subst eb_)); refine (impl_DoDesk_2.del (w0 := w) (base := w.heap.size) (g := gd255) (n := x162002_4.length) (c := co243) (k := y218.length) _ _ ?hi ?hj (by (with_reducible repeat (first | apply Kd.R_alloc | apply Kd.R_drewN | apply Kd.R_drew)); exact HO_162002.out) ?hk belowNow (below_size belowNow)).mono ?_; (case hi => omega); (case hj => omega); (case hk => omega); rintro e w254 ⟨rfl, ho, hb, hg⟩; (try refine ⟨_, rfl, ?_⟩); clear hj_ hl_ hh_ hb_ hk_ h0_; rw [hy1_, ← Ny226.out] at ho; clear hy1_; have hn_ : x162002_4.length - 1 = y226.length := (by have := (Kd.R_reads' ho).1; omega); rw [hn_] at ho ⊢; clear hn_; have n0_ := Aside0.mk (Kd.R_over' (v := (.slice (some ⟨gd255, 0, none⟩) x162002_4.length co243)) (by (with_reducible repeat (first | apply Kd.R_alloc | apply Kd.R_drewN | apply Kd.R_drew)); exact HO_162001.out) (Kd.R_typed HO_162002.out) (by decide) hg); have n1_ := Aside0.mk (ho); have n2_ := Aside0.mk (Kd.R_over' (v := (.slice (some ⟨gd255, 0, none⟩) x162002_4.length co243)) (by (with_reducible repeat (first | apply Kd.R_alloc | apply Kd.R_drewN | apply Kd.R_drew)); exact HO_173001.out) (Kd.R_typed HO_162002.out) (by decide) hg); have n3_ := Aside0.mk (Kd.R_after (v := (.slice (some ⟨gd255, 0, none⟩) x162002_4.length co243)) (v1 := .slice (some ⟨gd255, 0, none⟩) y226.length co243) (ok := (fun _ => True)) (by (with_reducible repeat (first | apply Kd.R_alloc | apply Kd.R_drewN | apply Kd.R_drew)); exact Kd.R_mono HO_173002.out (fun _ hk => ⟨trivial, hk⟩)) hg (.inl rfl)); have n4_ := Aside0.mk (blk_grown (g := gb161) (o := .cells #[.int .i64 a1_1, .slice (some ⟨go230, 0, none⟩) x162001_4.length co242, .slice (some ⟨gd255, 0, none⟩) x162002_4.length co243, .int .i64 x162003_4] 31 (0, 0)) blkNow hg (Kd.R_ne HO_162002.out BK161.out (by decide))); have n5_ := Aside0.mk (blk_grown (g := gb162) (o := .cells #[.int .i64 a1_0, .int .i64 a1_1, .int .i64 a1_2, .int .i64 a1_3, .int .i64 a1_4] 47 (0, 0)) blkNow hg (Kd.R_ne HO_162002.out BK162.out (by decide))); have n6_ := Aside0.mk (blk_grown (g := gb163) (o := .cells #[.int .i64 x164000_121, .slice none 0 0, .slice none 0 0, .int .i64 x164003_121] 31 (0, 0)) blkNow hg (Kd.R_ne HO_162002.out BK163.out (by decide))); have n7_ := Aside0.mk (blk_grown (g := gb172) (o := .cells #[.int .i64 t164, u173001, .slice Ao19 t168.length co19, .int .i64 t171] 31 (0, 0)) blkNow hg (Kd.R_ne HO_162002.out BK172.out (by decide))); have n8_ := Aside0.mk (Kd.R_over' (v := (.slice (some ⟨gd255, 0, none⟩) x162002_4.length co243)) (by (with_reducible repeat (first | apply Kd.R_alloc | apply Kd.R_drewN | apply Kd.R_drew)); exact HO217.out) (Kd.R_typed HO_162002.out) (by decide) hg); have n9_ := Aside0.mk (hb); clear HO_162001; clear HO_162002; clear HO_173001; clear HO_173002; clear BK161; clear BK162; clear BK163; clear BK172; clear HO217; clear HB; have HO_162001 := n0_; have HO_162002 := n1_; have HO_173001 := n2_; have HO_173002 := n3_; have BK161 := n4_; have BK162 := n5_; have BK163 := n6_; have BK172 := n7_; have HO217 := n8_; have HB := n9_; clear n0_ n1_ n2_ n3_ n4_ n5_ n6_ n7_ n8_ n9_; clear ho hb hg; have hcz256_0 : w254.cell? ⟨gb161, 0, none⟩ = some (.int .i64 a1_1) := (blk_cell BK161.out 0).trans rfl; have hcz256_1 : w254.cell? ⟨gb161, 1, none⟩ = some (.slice (some ⟨go230, 0, none⟩) x162001_4.length co242) := (blk_cell BK161.out 1).trans rfl; have hcz256_2 : w254.cell? ⟨gb161, 2, none⟩ = some (.slice (some ⟨gd255, 0, none⟩) x162002_4.length co243) := (blk_cell BK161.out 2).trans rfl; have hcz256_3 : w254.cell? ⟨gb161, 3, none⟩ = some (.int .i64 x162003_4) := (blk_cell BK161.out 3).trans rfl; have hfz256_0 := blk_frozen BK161.out 0; have hfz256_1 := blk_frozen BK161.out 1; have hfz256_2 := blk_frozen BK161.out 2; have hfz256_3 := blk_frozen BK161.out 3) | ((with_reducible refine gate_store (t := 29) (p := 223) rfl ?_); refine store_event (t := 29) (p := 223) (v := ?vo_w257) (w1 := (w254.setCell ⟨gb161, 2, none⟩ (.slice (some ⟨gd255, 0, none⟩) y226.length co243))) ?hg ?ho ?hn ?hr ?_; (case ho => rfl); (case hg => rfl); (case hn => rfl); (case hr => first | (go_simp; done) | (go_simp; rfl)); intro w257 hw; have n0_ : Aside0 (Kd.R k41 41 w257 w.heap.size (fun k_ => some k_ ≠ (u173001 : Value).ownBlock) (.slice (some ⟨go230, 0, none⟩) x162001_4.length co242) y213) := ⟨(by rw [hw]; exact (by (with_reducible repeat (first | apply Kd.R_alloc | apply Kd.R_drewN | apply Kd.R_drew)); exact Kd.R_mono (Kd.R_far (p := ⟨gb161, 2, none⟩) (Kd.R_types HO_162001.out BK161.out (by decide)) (fun _ hk => hk.2) (.slice (some ⟨gd255, 0, none⟩) y226.length co243)) (fun _ hk => hk.1)))⟩; have n1_ : Aside0 (Kd.R k70 70 w257 w.heap.size (fun k_ => some k_ ≠ (.slice Ao19 t168.length co19 : Value).ownBlock) (.slice (some ⟨gd255, 0, none⟩) y226.length co243) y226) := ⟨(by rw [hw]; exact (by (with_reducible repeat (first | apply Kd.R_alloc | apply Kd.R_drewN | apply Kd.R_drew)); exact Kd.R_mono (Kd.R_far (p := ⟨gb161, 2, none⟩) (Kd.R_types HO_162002.out BK161.out (by decide)) (fun _ hk => hk.2) (.slice (some ⟨gd255, 0, none⟩) y226.length co243)) (fun _ hk => hk.1)))⟩; have n2_ : Aside0 (Kd.R k41 41 w257 w.heap.size (fun k_ => some k_ ≠ (.slice (some ⟨go230, 0, none⟩) x162001_4.length co242 : Value).ownBlock) u173001 x173001_4) := ⟨(by rw [hw]; exact (by (with_reducible repeat (first | apply Kd.R_alloc | apply Kd.R_drewN | apply Kd.R_drew)); exact Kd.R_mono (Kd.R_far (p := ⟨gb161, 2, none⟩) (Kd.R_types HO_173001.out BK161.out (by decide)) (fun _ hk => hk.2) (.slice (some ⟨gd255, 0, none⟩) y226.length co243)) (fun _ hk => hk.1)))⟩; have n3_ : Aside0 (Kd.R k70 70 w257 w.heap.size (fun k_ => some k_ ≠ (.slice (some ⟨gd255, 0, none⟩) y226.length co243 : Value).ownBlock) (.slice Ao19 t168.length co19) t168) := ⟨(by rw [hw]; exact (by (with_reducible repeat (first | apply Kd.R_alloc | apply Kd.R_drewN | apply Kd.R_drew)); exact Kd.R_mono (Kd.R_far (p := ⟨gb161, 2, none⟩) (Kd.R_types HO_173002.out BK161.out (by decide)) (fun _ hk => hk.2) (.slice (some ⟨gd255, 0, none⟩) y226.length co243)) (fun _ hk => hk.1.2)))⟩; have n4_ : Aside0 (Kd.R (Kd.int .i64) 3 w257 w.heap.size (fun _ => True) v216 y215) := ⟨(by rw [hw]; exact (by (with_reducible repeat (first | apply Kd.R_alloc | apply Kd.R_drewN | apply Kd.R_drew)); exact Kd.R_mono (Kd.R_far (p := ⟨gb161, 2, none⟩) (Kd.R_types HO217.out BK161.out (by decide)) (fun _ hk => hk.2) (.slice (some ⟨gd255, 0, none⟩) y226.length co243)) (fun _ hk => trivial)))⟩; have n5_ : Aside0 (w257.heap[gb161]? = some (.cells #[.int .i64 a1_1, .slice (some ⟨go230, 0, none⟩) x162001_4.length co242, .slice (some ⟨gd255, 0, none⟩) y226.length co243, .int .i64 x162003_4] 31 (0, 0))) := ⟨(by rw [hw]; exact (by (with_reducible repeat (first | refine blk_drewN ?_ _ | refine blk_drew ?_ | refine blk_alloc ?_ _)); refine blk_put (cs := #[.int .i64 a1_1, .slice (some ⟨go230, 0, none⟩) x162001_4.length co242, .slice (some ⟨gd255, 0, none⟩) x162002_4.length co243, .int .i64 x162003_4]) ?_ 2 _ rfl; (with_reducible repeat (first | refine blk_drewN ?_ _ | refine blk_drew ?_ | refine blk_alloc ?_ _)); exact BK161.out))⟩; have n6_ : Aside0 (w257.heap[gb162]? = some (.cells #[.int .i64 a1_0, .int .i64 a1_1, .int .i64 a1_2, .int .i64 a1_3, .int .i64 a1_4] 47 (0, 0))) := ⟨(by rw [hw]; exact (blkFars))⟩; have n7_ : Aside0 (w257.heap[gb163]? = some (.cells #[.int .i64 x164000_121, .slice none 0 0, .slice none 0 0, .int .i64 x164003_121] 31 (0, 0))) := ⟨(by rw [hw]; exact (blkFars))⟩; have n8_ : Aside0 (w257.heap[gb172]? = some (.cells #[.int .i64 t164, u173001, .slice Ao19 t168.length co19, .int .i64 t171] 31 (0, 0))) := ⟨(by rw [hw]; exact (blkFars))⟩; have n9_ : Aside0 (Below w.heap.size w w257) := ⟨(by rw [hw]; exact belowNow)⟩; clear hw; clear HO_162001; clear HO_162002; clear HO_173001; clear HO_173002; clear HO217; clear BK161; clear BK162; clear BK163; clear BK172; clear HB; have HO_162001 := n0_; have HO_162002 := n1_; have HO_173001 := n2_; have HO_173002 := n3_; have HO217 := n4_; have BK161 := n5_; have BK162 := n6_; have BK163 := n7_; have BK172 := n8_; have HB := n9_; clear n0_ n1_ n2_ n3_ n4_ n5_ n6_ n7_ n8_ n9_; have hcz258_0 : w257.cell? ⟨gb161, 0, none⟩ = some (.int .i64 a1_1) := (blk_cell BK161.out 0).trans rfl; have hcz258_1 : w257.cell? ⟨gb161, 1, none⟩ = some (.slice (some ⟨go230, 0, none⟩) x162001_4.length co242) := (blk_cell BK161.out 1).trans rfl; have hcz258_2 : w257.cell? ⟨gb161, 2, none⟩ = some (.slice (some ⟨gd255, 0, none⟩) y226.length co243) := (blk_cell BK161.out 2).trans rfl; have hcz258_3 : w257.cell? ⟨gb161, 3, none⟩ = some (.int .i64 x162003_4) := (blk_cell BK161.out 3).trans rfl; have hfz258_0 := blk_frozen BK161.out 0; have hfz258_1 := blk_frozen BK161.out 1; have hfz258_2 := blk_frozen BK161.out 2; have hfz258_3 := blk_frozen BK161.out 3) | ((with_reducible refine gate_store (t := 3) (p := 227) rfl ?_); refine store_event (t := 3) (p := 227) (v := ?vo_w259) (w1 := (w257.setCell ⟨gb161, 3, none⟩ (.int .i64 (wrap64 (x162003_4 + 1))))) ?hg ?ho ?hn ?hr ?_; (case ho => rfl); (case hg => rfl); (case hn => rfl); (case hr => first | (go_simp; done) | (go_simp; rfl)); intro w259 hw; have n0_ : Aside0 (Kd.R k41 41 w259 w.heap.size (fun k_ => some k_ ≠ (u173001 : Value).ownBlock) (.slice (some ⟨go230, 0, none⟩) x162001_4.length co242) y213) := ⟨(by rw [hw]; exact (by (with_reducible repeat (first | apply Kd.R_alloc | apply Kd.R_drewN | apply Kd.R_drew)); exact Kd.R_mono (Kd.R_far (p := ⟨gb161, 3, none⟩) (Kd.R_types HO_162001.out BK161.out (by decide)) (fun _ hk => hk.2) (.int .i64 (wrap64 (x162003_4 + 1)))) (fun _ hk => hk.1)))⟩; have n1_ : Aside0 (Kd.R k70 70 w259 w.heap.size (fun k_ => some k_ ≠ (.slice Ao19 t168.length co19 : Value).ownBlock) (.slice (some ⟨gd255, 0, none⟩) y226.length co243) y226) := ⟨(by rw [hw]; exact (by (with_reducible repeat (first | apply Kd.R_alloc | apply Kd.R_drewN | apply Kd.R_drew)); exact Kd.R_mono (Kd.R_far (p := ⟨gb161, 3, none⟩) (Kd.R_types HO_162002.out BK161.out (by decide)) (fun _ hk => hk.2) (.int .i64 (wrap64 (x162003_4 + 1)))) (fun _ hk => hk.1)))⟩; have n2_ : Aside0 (Kd.R k41 41 w259 w.heap.size (fun k_ => some k_ ≠ (.slice (some ⟨go230, 0, none⟩) x162001_4.length co242 : Value).ownBlock) u173001 x173001_4) := ⟨(by rw [hw]; exact (by (with_reducible repeat (first | apply Kd.R_alloc | apply Kd.R_drewN | apply Kd.R_drew)); exact Kd.R_mono (Kd.R_far (p := ⟨gb161, 3, none⟩) (Kd.R_types HO_173001.out BK161.out (by decide)) (fun _ hk => hk.2) (.int .i64 (wrap64 (x162003_4 + 1)))) (fun _ hk => hk.1)))⟩; have n3_ : Aside0 (Kd.R k70 70 w259 w.heap.size (fun k_ => some k_ ≠ (.slice (some ⟨gd255, 0, none⟩) y226.length co243 : Value).ownBlock) (.slice Ao19 t168.length co19) t168) := ⟨(by rw [hw]; exact (by (with_reducible repeat (first | apply Kd.R_alloc | apply Kd.R_drewN | apply Kd.R_drew)); exact Kd.R_mono (Kd.R_far (p := ⟨gb161, 3, none⟩) (Kd.R_types HO_173002.out BK161.out (by decide)) (fun _ hk => hk.2) (.int .i64 (wrap64 (x162003_4 + 1)))) (fun _ hk => hk.1)))⟩; have n4_ : Aside0 (Kd.R (Kd.int .i64) 3 w259 w.heap.size (fun _ => True) v216 y215) := ⟨(by rw [hw]; exact (by (with_reducible repeat (first | apply Kd.R_alloc | apply Kd.R_drewN | apply Kd.R_drew)); exact Kd.R_mono (Kd.R_far (p := ⟨gb161, 3, none⟩) (Kd.R_types HO217.out BK161.out (by decide)) (fun _ hk => hk.2) (.int .i64 (wrap64 (x162003_4 + 1)))) (fun _ hk => trivial)))⟩; have n5_ : Aside0 (w259.heap[gb161]? = some (.cells #[.int .i64 a1_1, .slice (some ⟨go230, 0, none⟩) x162001_4.length co242, .slice (some ⟨gd255, 0, none⟩) y226.length co243, .int .i64 (wrap64 (x162003_4 + 1))] 31 (0, 0))) := ⟨(by rw [hw]; exact (by (with_reducible repeat (first | refine blk_drewN ?_ _ | refine blk_drew ?_ | refine blk_alloc ?_ _)); refine blk_put (cs := #[.int .i64 a1_1, .slice (some ⟨go230, 0, none⟩) x162001_4.length co242, .slice (some ⟨gd255, 0, none⟩) y226.length co243, .int .i64 x162003_4]) ?_ 3 _ rfl; (with_reducible repeat (first | refine blk_drewN ?_ _ | refine blk_drew ?_ | refine blk_alloc ?_ _)); exact BK161.out))⟩; have n6_ : Aside0 (w259.heap[gb162]? = some (.cells #[.int .i64 a1_0, .int .i64 a1_1, .int .i64 a1_2, .int .i64 a1_3, .int .i64 a1_4] 47 (0, 0))) := ⟨(by rw [hw]; exact (blkFars))⟩; have n7_ : Aside0 (w259.heap[gb163]? = some (.cells #[.int .i64 x164000_121, .slice none 0 0, .slice none 0 0, .int .i64 x164003_121] 31 (0, 0))) := ⟨(by rw [hw]; exact (blkFars))⟩; have n8_ : Aside0 (w259.heap[gb172]? = some (.cells #[.int .i64 t164, u173001, .slice Ao19 t168.length co19, .int .i64 t171] 31 (0, 0))) := ⟨(by rw [hw]; exact (blkFars))⟩; have n9_ : Aside0 (Below w.heap.size w w259) := ⟨(by rw [hw]; exact belowNow)⟩; clear hw; clear HO_162001; clear HO_162002; clear HO_173001; clear HO_173002; clear HO217; clear BK161; clear BK162; clear BK163; clear BK172; clear HB; have HO_162001 := n0_; have HO_162002 := n1_; have HO_173001 := n2_; have HO_173002 := n3_; have HO217 := n4_; have BK161 := n5_; have BK162 := n6_; have BK163 := n7_; have BK172 := n8_; have HB := n9_; clear n0_ n1_ n2_ n3_ n4_ n5_ n6_ n7_ n8_ n9_))
                    go_roundg k4
                    case measure => have := HJ4.out; have := HJ54.out; have := HJ121.out; have := HK4.out; omega
                    case rel => exact ⟨(y215), (y213), (y226), (wrap64 (x162003_4 + 1)), (x173001_4), (.slice (some ⟨go230, 0, none⟩) x162001_4.length co242), (.slice (some ⟨gd255, 0, none⟩) y226.length co243), (u173001), H', ⟨by have := HJ4.out; have := HJ54.out; have := HJ121.out; have := HK4.out; omega⟩, ⟨by (with_reducible repeat (first | apply Kd.R_alloc | apply Kd.R_drewN | apply Kd.R_drew)); exact HO217.out⟩, ⟨by (with_reducible repeat (first | apply Kd.R_alloc | apply Kd.R_drewN | apply Kd.R_drew)); exact HO_162001.out⟩, ⟨by (with_reducible repeat (first | apply Kd.R_alloc | apply Kd.R_drewN | apply Kd.R_drew)); exact HO_162002.out⟩, ⟨by (with_reducible repeat (first | apply Kd.R_alloc | apply Kd.R_drewN | apply Kd.R_drew)); exact HO_173001.out⟩, ⟨by (with_reducible repeat (first | apply Kd.R_alloc | apply Kd.R_drewN | apply Kd.R_drew)); exact HO_173002.out⟩, ⟨by (with_reducible repeat (first | refine blk_drewN ?_ _ | refine blk_drew ?_ | refine blk_alloc ?_ _)); exact BK161.out⟩, ⟨by (with_reducible repeat (first | refine blk_drewN ?_ _ | refine blk_drew ?_ | refine blk_alloc ?_ _)); exact BK162.out⟩, ⟨by (with_reducible repeat (first | refine blk_drewN ?_ _ | refine blk_drew ?_ | refine blk_alloc ?_ _)); exact BK163.out⟩, ⟨by (with_reducible repeat (first | refine blk_drewN ?_ _ | refine blk_drew ?_ | refine blk_alloc ?_ _)); exact BK172.out⟩, ⟨belowNow⟩⟩
                  ·rw [if_neg c237] at H
                   exact absurd H (by simp)
                 ·rw [if_neg c236] at H
                  exact absurd H (by simp)
                ·rw [if_neg c234] at H
                 exact absurd H (by simp)
               ·rw [if_neg c232] at H
                exact absurd H (by simp)
              ·rw [if_neg c229] at H
               exact absurd H (by simp)
             ·rw [if_neg c228] at H
              exact absurd H (by simp)
            ·rw [if_neg c227] at H
             exact absurd H (by simp)
           ·rw [if_neg c226] at H
            exact absurd H (by simp)
          ·replace c225 := Bool.eq_false_iff.mpr c225
           subst c225
           have H1 : (if (x162002_4.length : Int) > 40 then (some (t164, x173001_4, t168, t171, ([] : List Int), 2)) else (if x162003_4 > 1000000 then (some (t164, x173001_4, t168, t171, ([] : List Int), 2)) else (some (a1_1, x162001_4, x162002_4, x162003_4, x12_4, 0)))) = some (r1, r2, r3, r4, r5, r6) := by rw [if_neg (show ¬ (false = true) by decide)] at H; exact H
           clear H
           have H := H1
           clear H1
           by_cases c260 : (x162002_4.length : Int) > 40
           ·rw [if_pos c260] at H
            have c260b0 : decide (40 < (x162002_4.length : Int)) = true := decide_eq_true c260
            have c260b1 : decide (40 < x162002_4.length) = true := decide_eq_true (by omega)
            clear c260
            as_aux_lemma =>
             simp only [Option.some.injEq, Prod.mk.injEq] at H
             obtain ⟨rfl, rfl, rfl, rfl, rfl, rfl⟩ := H
             have hnb261 := NB161_162.out
             have hnc261 := NB162_161.out
             have hnb262 := NB161_163.out
             have hnc262 := NB163_161.out
             have hnb263 := NB161_172.out
             have hnc263 := NB172_161.out
             have hcz264_0 := cz_ BK161.out 0 rfl
             have hcz264_1 := cz_ BK161.out 1 rfl
             have hcz264_2 := cz_ BK161.out 2 rfl
             have hcz264_3 := cz_ BK161.out 3 rfl
             have hfz264_0 := blk_frozen BK161.out 0
             have hfz264_1 := blk_frozen BK161.out 1
             have hfz264_2 := blk_frozen BK161.out 2
             have hfz264_3 := blk_frozen BK161.out 3
             obtain ⟨Ao265, co265, eo265⟩ := Kd.R_slice HO_162001.out
             subst eo265
             obtain ⟨Ao266, co266, eo266⟩ := Kd.R_slice HO_162002.out
             subst eo266
             exact impl_DoDesk.end4
           ·rw [if_neg c260] at H
            have c260b0 : decide (40 < (x162002_4.length : Int)) = false := decide_eq_false c260
            have c260b1 : decide (40 < x162002_4.length) = false := decide_eq_false (by omega)
            clear c260
            by_cases c276 : x162003_4 > 1000000
            ·rw [if_pos c276] at H
             have c276b0 : decide (1000000 < x162003_4) = true := decide_eq_true c276
             clear c276
             as_aux_lemma =>
              simp only [Option.some.injEq, Prod.mk.injEq] at H
              obtain ⟨rfl, rfl, rfl, rfl, rfl, rfl⟩ := H
              have hnb277 := NB161_162.out
              have hnc277 := NB162_161.out
              have hnb278 := NB161_163.out
              have hnc278 := NB163_161.out
              have hnb279 := NB161_172.out
              have hnc279 := NB172_161.out
              have hcz280_0 := cz_ BK161.out 0 rfl
              have hcz280_1 := cz_ BK161.out 1 rfl
              have hcz280_2 := cz_ BK161.out 2 rfl
              have hcz280_3 := cz_ BK161.out 3 rfl
              have hfz280_0 := blk_frozen BK161.out 0
              have hfz280_1 := blk_frozen BK161.out 1
              have hfz280_2 := blk_frozen BK161.out 2
              have hfz280_3 := blk_frozen BK161.out 3
              obtain ⟨Ao281, co281, eo281⟩ := Kd.R_slice HO_162001.out
              subst eo281
              obtain ⟨Ao282, co282, eo282⟩ := Kd.R_slice HO_162002.out
              subst eo282
              exact impl_DoDesk.end5
            ·rw [if_neg c276] at H
             have c276b0 : decide (1000000 < x162003_4) = false := decide_eq_false c276
             clear c276
             as_aux_lemma =>
              simp only [Option.some.injEq, Prod.mk.injEq] at H
              obtain ⟨rfl, rfl, rfl, rfl, rfl, rfl⟩ := H
              have hnb292 := NB161_162.out
              have hnc292 := NB162_161.out
              have hnb293 := NB161_163.out
              have hnc293 := NB163_161.out
              have hnb294 := NB161_172.out
              have hnc294 := NB172_161.out
              have hcz295_0 := cz_ BK161.out 0 rfl
              have hcz295_1 := cz_ BK161.out 1 rfl
              have hcz295_2 := cz_ BK161.out 2 rfl
              have hcz295_3 := cz_ BK161.out 3 rfl
              have hfz295_0 := blk_frozen BK161.out 0
              have hfz295_1 := blk_frozen BK161.out 1
              have hfz295_2 := blk_frozen BK161.out 2
              have hfz295_3 := blk_frozen BK161.out 3
              obtain ⟨Ao296, co296, eo296⟩ := Kd.R_slice HO_162001.out
              subst eo296
              obtain ⟨Ao297, co297, eo297⟩ := Kd.R_slice HO_162002.out
              subst eo297
              exact impl_DoDesk.end6
     ·replace c121 := Bool.eq_false_iff.mpr c121
      subst c121
      have H1 : (some (t164, t165, t168, t171, ([] : List Int), 1)) = some (r1, r2, r3, r4, r5, r6) := by rw [if_neg (show ¬ (false = true) by decide)] at H; exact H
      clear H
      have H := H1
      clear H1
      as_aux_lemma =>
       simp only [Option.some.injEq, Prod.mk.injEq] at H
       obtain ⟨rfl, rfl, rfl, rfl, rfl, rfl⟩ := H
       have hnb304 := NB172_161.out
       have hnc304 := NB161_172.out
       have hnb305 := NB172_162.out
       have hnc305 := NB162_172.out
       have hnb306 := NB172_163.out
       have hnc306 := NB163_172.out
       have hcz307_0 := cz_ BK172.out 0 rfl
       have hcz307_1 := cz_ BK172.out 1 rfl
       have hcz307_2 := cz_ BK172.out 2 rfl
       have hcz307_3 := cz_ BK172.out 3 rfl
       have hfz307_0 := blk_frozen BK172.out 0
       have hfz307_1 := blk_frozen BK172.out 1
       have hfz307_2 := blk_frozen BK172.out 2
       have hfz307_3 := blk_frozen BK172.out 3
       have hnb308 := NB163_161.out
       have hnc308 := NB161_163.out
       have hnb309 := NB163_162.out
       have hnc309 := NB162_163.out
       have hcz310_0 := cz_ BK163.out 0 rfl
       have hcz310_1 := cz_ BK163.out 1 rfl
       have hcz310_2 := cz_ BK163.out 2 rfl
       have hcz310_3 := cz_ BK163.out 3 rfl
       have hfz310_0 := blk_frozen BK163.out 0
       have hfz310_1 := blk_frozen BK163.out 1
       have hfz310_2 := blk_frozen BK163.out 2
       have hfz310_3 := blk_frozen BK163.out 3
       exact impl_DoDesk.end7

end Go.Proofs.Ytllgjohkkahfgaa.PFnTurns8
