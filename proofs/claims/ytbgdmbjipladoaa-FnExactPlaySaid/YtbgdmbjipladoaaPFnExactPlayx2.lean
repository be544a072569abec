-- laid by a program of this session (wip/lay/lay.py); Lean checks it
import Derived.Test.YtbgdmbjipladoaaVFnExactPlayShort
import Derived.Test.YtbgdmbjipladoaaPFnExactPlayx0
namespace Go.Proofs.Ytbgdmbjipladoaa.PFnExactPlay
-- squashed
open Go.RowKit Go.Proofs.YtbgdmbjipladoaaW.PrintWords Go.Proofs.YtbgdmbjipladoaaW.PrintLast Go.Proofs.YtbgdmbjipladoaaW.PrintMore Go.Proofs.Ytbgdmbjipladoaa.Short
attribute [local go_sem] max2_int min2_int max_two min_two max_three min_three max_four min_four   -- for this text's walks alone
set_option linter.unusedVariables false
set_option linter.unusedSimpArgs false

theorem cz2_ {w : World} {g : Nat} {t : TypeId} {cs : Array Value} {v : Value} (h : w.heap[g]? = some (.cells cs t (0, 0))) (i : Nat) (e : cs[i]? = some v) : w.cell? ⟨g, i, none⟩ = some v := (blk_cell h i).trans e
/-! ### laws_markPacketS: function 36 -/
def laws_markPacketS.E (x : S44) : List Value := [.int .i64 x.f0, .int .i64 x.f1, .int .u8 x.f2.f0, .int .u8 x.f2.f1, .int .u8 x.f2.f2, .int .u8 x.f2.f3, .int .u8 x.f2.f4, .int .u8 x.f2.f5, .int .u8 x.f2.f6, .int .u8 x.f2.f7, .int .u8 x.f2.f8, .int .u8 x.f2.f9, .int .u8 x.f2.f10, .int .u8 x.f2.f11, .int .u8 x.f2.f12, .int .u8 x.f2.f13, .int .u8 x.f2.f14, .int .u8 x.f2.f15]
def laws_markPacketS.sb (x : S44) (y : Nat) (v : Int) : S44 := match y with
 | 0 => ⟨x.f0, x.f1, ⟨v, x.f2.f1, x.f2.f2, x.f2.f3, x.f2.f4, x.f2.f5, x.f2.f6, x.f2.f7, x.f2.f8, x.f2.f9, x.f2.f10, x.f2.f11, x.f2.f12, x.f2.f13, x.f2.f14, x.f2.f15⟩⟩
 | 1 => ⟨x.f0, x.f1, ⟨x.f2.f0, v, x.f2.f2, x.f2.f3, x.f2.f4, x.f2.f5, x.f2.f6, x.f2.f7, x.f2.f8, x.f2.f9, x.f2.f10, x.f2.f11, x.f2.f12, x.f2.f13, x.f2.f14, x.f2.f15⟩⟩
 | 2 => ⟨x.f0, x.f1, ⟨x.f2.f0, x.f2.f1, v, x.f2.f3, x.f2.f4, x.f2.f5, x.f2.f6, x.f2.f7, x.f2.f8, x.f2.f9, x.f2.f10, x.f2.f11, x.f2.f12, x.f2.f13, x.f2.f14, x.f2.f15⟩⟩
 | 3 => ⟨x.f0, x.f1, ⟨x.f2.f0, x.f2.f1, x.f2.f2, v, x.f2.f4, x.f2.f5, x.f2.f6, x.f2.f7, x.f2.f8, x.f2.f9, x.f2.f10, x.f2.f11, x.f2.f12, x.f2.f13, x.f2.f14, x.f2.f15⟩⟩
 | 4 => ⟨x.f0, x.f1, ⟨x.f2.f0, x.f2.f1, x.f2.f2, x.f2.f3, v, x.f2.f5, x.f2.f6, x.f2.f7, x.f2.f8, x.f2.f9, x.f2.f10, x.f2.f11, x.f2.f12, x.f2.f13, x.f2.f14, x.f2.f15⟩⟩
 | 5 => ⟨x.f0, x.f1, ⟨x.f2.f0, x.f2.f1, x.f2.f2, x.f2.f3, x.f2.f4, v, x.f2.f6, x.f2.f7, x.f2.f8, x.f2.f9, x.f2.f10, x.f2.f11, x.f2.f12, x.f2.f13, x.f2.f14, x.f2.f15⟩⟩
 | 6 => ⟨x.f0, x.f1, ⟨x.f2.f0, x.f2.f1, x.f2.f2, x.f2.f3, x.f2.f4, x.f2.f5, v, x.f2.f7, x.f2.f8, x.f2.f9, x.f2.f10, x.f2.f11, x.f2.f12, x.f2.f13, x.f2.f14, x.f2.f15⟩⟩
 | 7 => ⟨x.f0, x.f1, ⟨x.f2.f0, x.f2.f1, x.f2.f2, x.f2.f3, x.f2.f4, x.f2.f5, x.f2.f6, v, x.f2.f8, x.f2.f9, x.f2.f10, x.f2.f11, x.f2.f12, x.f2.f13, x.f2.f14, x.f2.f15⟩⟩
 | 8 => ⟨x.f0, x.f1, ⟨x.f2.f0, x.f2.f1, x.f2.f2, x.f2.f3, x.f2.f4, x.f2.f5, x.f2.f6, x.f2.f7, v, x.f2.f9, x.f2.f10, x.f2.f11, x.f2.f12, x.f2.f13, x.f2.f14, x.f2.f15⟩⟩
 | 9 => ⟨x.f0, x.f1, ⟨x.f2.f0, x.f2.f1, x.f2.f2, x.f2.f3, x.f2.f4, x.f2.f5, x.f2.f6, x.f2.f7, x.f2.f8, v, x.f2.f10, x.f2.f11, x.f2.f12, x.f2.f13, x.f2.f14, x.f2.f15⟩⟩
 | 10 => ⟨x.f0, x.f1, ⟨x.f2.f0, x.f2.f1, x.f2.f2, x.f2.f3, x.f2.f4, x.f2.f5, x.f2.f6, x.f2.f7, x.f2.f8, x.f2.f9, v, x.f2.f11, x.f2.f12, x.f2.f13, x.f2.f14, x.f2.f15⟩⟩
 | 11 => ⟨x.f0, x.f1, ⟨x.f2.f0, x.f2.f1, x.f2.f2, x.f2.f3, x.f2.f4, x.f2.f5, x.f2.f6, x.f2.f7, x.f2.f8, x.f2.f9, x.f2.f10, v, x.f2.f12, x.f2.f13, x.f2.f14, x.f2.f15⟩⟩
 | 12 => ⟨x.f0, x.f1, ⟨x.f2.f0, x.f2.f1, x.f2.f2, x.f2.f3, x.f2.f4, x.f2.f5, x.f2.f6, x.f2.f7, x.f2.f8, x.f2.f9, x.f2.f10, x.f2.f11, v, x.f2.f13, x.f2.f14, x.f2.f15⟩⟩
 | 13 => ⟨x.f0, x.f1, ⟨x.f2.f0, x.f2.f1, x.f2.f2, x.f2.f3, x.f2.f4, x.f2.f5, x.f2.f6, x.f2.f7, x.f2.f8, x.f2.f9, x.f2.f10, x.f2.f11, x.f2.f12, v, x.f2.f14, x.f2.f15⟩⟩
 | 14 => ⟨x.f0, x.f1, ⟨x.f2.f0, x.f2.f1, x.f2.f2, x.f2.f3, x.f2.f4, x.f2.f5, x.f2.f6, x.f2.f7, x.f2.f8, x.f2.f9, x.f2.f10, x.f2.f11, x.f2.f12, x.f2.f13, v, x.f2.f15⟩⟩
 | 15 => ⟨x.f0, x.f1, ⟨x.f2.f0, x.f2.f1, x.f2.f2, x.f2.f3, x.f2.f4, x.f2.f5, x.f2.f6, x.f2.f7, x.f2.f8, x.f2.f9, x.f2.f10, x.f2.f11, x.f2.f12, x.f2.f13, x.f2.f14, v⟩⟩
 | _ => x
/-- The bytes from number 16 - n on. -/
def laws_markPacketS.mb (x : S44) (k : Int) : Nat → S44
 | 0 => x
 | n + 1 => laws_markPacketS.mb (laws_markPacketS.sb x (15 - n) (k % 256)) (k + 1) n
def laws_markPacketS.mk (x : S44) (k : Int) : S44 := laws_markPacketS.mb ⟨k, k + 1, x.f2⟩ (k + 2) 16
def laws_markPacketS.m : List S44 → Int → List S44
 | [], _ => []
 | x :: r, k => laws_markPacketS.mk x k :: laws_markPacketS.m r (k + 18)
def laws_markPacketS.f (l0 : List S44) (a1 : Int) : Option (Int × List S44) := if 0 ≤ a1 ∧ a1 + 18 * (l0.length : Int) ≤ 1000000000000 then some (a1 + 18 * (l0.length : Int), laws_markPacketS.m l0 a1) else none
theorem laws_markPacketS.E_len (x : S44) : (laws_markPacketS.E x).length = 18 := rfl
theorem laws_markPacketS.sb_E (x : S44) (y : Nat) (h : y < 16) (v : Int) : laws_markPacketS.E (laws_markPacketS.sb x y v) = (laws_markPacketS.E x).take (2 + y) ++ [.int .u8 v] ++ (laws_markPacketS.E x).drop (2 + y + 1) := by
 match y, h with
 | 0, _ | 1, _ | 2, _ | 3, _ | 4, _ | 5, _ | 6, _ | 7, _ | 8, _ | 9, _ | 10, _ | 11, _ | 12, _ | 13, _ | 14, _ | 15, _ => rfl
 | n + 16, h => exact absurd h (by omega)
theorem laws_markPacketS.st {W : World} {base g o n cap : Nat} {ok : Nat → Prop} {L : List S44} (h : Kd.Q k44 44 W base ok (.slice (some ⟨g, o, none⟩) n cap) L) (i : Nat) (hi : i < L.length) (j : Nat) (hj : j < 18) (v : Value) (x' : S44)
  (hE : laws_markPacketS.E x' = (laws_markPacketS.E (L.getD i z44)).take j ++ [v] ++ (laws_markPacketS.E (L.getD i z44)).drop (j + 1)) :
  Kd.Q k44 44 (W.setCell ⟨g, o + i * 18 + j, none⟩ v) base ok (.slice (some ⟨g, o, none⟩) n cap) (L.set i x') ∧ W.grownBy (W.setCell ⟨g, o + i * 18 + j, none⟩ v) (some g) ∧ (∃ u, W.cell? ⟨g, o + i * 18 + j, none⟩ = some u) ∧ W.frozen? ⟨g, o + i * 18 + j, none⟩ = false := by
 have hn := (Kd.Q_reads' h).1
 obtain ⟨c, hcl, hM, hcc, hfr⟩ := Kd.Q_elem h z44 (i : Int) (by omega) (by omega)
 rw [Int.toNat_natCast] at hM hcc hfr
 have hc := k44_openM hM
 have hs := Kd.Q_seg h (i : Int) (by omega) (by omega) (c := c) (seg := [v]) (j := j) hcl (by rw [Int.toNat_natCast]; exact hcc) (by have : k44.sz = 18 := rfl; simp; omega) (x' := x') (okp := fun _ => False) (by
  have := k44_mkM W base (fun _ => False) x'
  have e : c = laws_markPacketS.E (L.getD i z44) := hc
  rw [e]
  have h2 : laws_markPacketS.E x' = (laws_markPacketS.E (L.getD i z44)).take j ++ [v] ++ (laws_markPacketS.E (L.getD i z44)).drop (j + [v].length) := hE
  rw [← h2]
  exact this) (fun _ hk => hk.elim)
 rw [Int.toNat_natCast] at hs
 refine ⟨hs.1, hs.2, ?_, hfr j⟩
 have hcl' : c.length = 18 := hcl
 exact ⟨c[j]'(by omega), hcc j _ (List.getElem?_eq_getElem (by omega))⟩
set_option maxHeartbeats 8000000 in
set_option maxRecDepth 100000 in
theorem laws_markPacketS.calls (P0_ : Nat → Prop) (u9000_ : Value) (l0 : List S44) (a1 r1 : Int) (r2 : List S44) (w0 w : World) (hB : Below w0.heap.size w0 w) (ho0 : Kd.Q k44 44 w w0.heap.size P0_ u9000_ l0) (h : laws_markPacketS.f l0 a1 = some (r1, r2)) :
  Calls Try.prog 36 #[u9000_, .int .i64 a1] w fun e w' => e = .returned (.int .i64 r1) ∧ Kd.Q k44 44 w' w0.heap.size (fun k_ => (P0_ k_ ∨ w.heap.size ≤ k_)) u9000_ r2 ∧ Below w0.heap.size w0 w' ∧ Kept w w' (fun k_ => P0_ k_) := by
 have hu26 := Try.underlying26; have hu44 := Try.underlying44; have hu39 := Try.underlying39
 have hn : 0 ≤ a1 ∧ a1 + 18 * (l0.length : Int) ≤ 1000000000000 := by
  unfold laws_markPacketS.f at h
  split at h
  ·assumption
  ·cases h
 rw [laws_markPacketS.f, if_pos hn] at h; simp only [Option.some.injEq, Prod.mk.injEq] at h; obtain ⟨rfl, hr2⟩ := h; have HR2 := am_ hr2; have HN := am_ hn; obtain ⟨A, c, rfl, _⟩ := Kd.Q_slice ho0; have HO := am_ ho0; have HB := am_ hB
 have HK := am_ (Kept.refl w (fun k_ => P0_ k_))
 clear ho0 hB hn hr2
 go_enter Try.func36, Try.ntmps36
 go_wp2
 go_loopg [1, 5] l0.length (fun g v1 v5 w' => ∃ (k x : Int) (i : Nat) (L : List S44), v1 = .int .i64 k ∧ v5 = .int .i64 x ∧ Aside0 (x = (i : Int) ∧ i ≤ l0.length ∧ g = l0.length - i ∧ k = a1 + 18 * x ∧ L.length = l0.length) ∧ Aside0 (∃ dn : List S44, dn.length = i ∧ L = dn ++ l0.drop i ∧ dn ++ laws_markPacketS.m (l0.drop i) k = r2) ∧ Aside0 (Kd.Q k44 44 w' w0.heap.size P0_ (.slice A l0.length c) L) ∧ Aside0 (Kept w w' (fun k_ => P0_ k_)) ∧ Aside0 (Below w0.heap.size w0 w'))
 case atStart => exact ⟨a1, 0, 0, l0, rfl, rfl, ⟨⟨rfl, Nat.zero_le _, rfl, by omega, rfl⟩⟩, ⟨⟨[], rfl, rfl, HR2.out⟩⟩, HO, HK, HB⟩
 case round =>
  clear HO HK HB; obtain ⟨k, x, i, L, rfl, rfl, HI, HL, HO, HK, HB⟩ := hrel
  by_cases c1 : x < (l0.length : Int)
  case neg =>
   have cb : decide (x < (l0.length : Int)) = false := decide_eq_false c1
   have hi : i = l0.length := by have := HI.out; omega
   have hk : k = a1 + 18 * (l0.length : Int) := by have := HI.out; omega
   have hL : L = r2 := by
    obtain ⟨dn, hdn, hL, hm⟩ := HL.out
    rw [hi, List.drop_eq_nil_of_le (Nat.le_refl _)] at hL hm
    rw [hL, ← hm]
    rfl
   subst hL; subst hk; have p1 := eq_false c1; clear c1 hi
   go_wp2
   go_ret
   exact ⟨rfl, Kd.Q_mono HO.out (fun k hk => .inl hk), HB.out, HK.out⟩

  have cb : decide (x < (l0.length : Int)) = true := decide_eq_true c1
  have cx : 0 ≤ x := by have := HI.out; omega
  have CX := am_ (show 0 ≤ x ∧ x < (l0.length : Int) from ⟨cx, c1⟩); have hLn : L.length = l0.length := HI.out.2.2.2.2
  have hiL : i < L.length := by have := HI.out; omega
  have hxi : x.toNat = i := by have := HI.out; omega
  obtain ⟨g, o, cap, e1, hgb, hgl, _⟩ := Kd.Q_form HO.out (by omega)
  injection e1 with ea en ec
  subst ea; subst ec; have GB := am_ hgb; have HOK := am_ (show P0_ g from HO.out.1 g rfl)
  have S1 := laws_markPacketS.st HO.out i hiL 0 (by decide) (.int .i64 k) ⟨k, (L.getD i z44).f1, (L.getD i z44).f2⟩ rfl
  have S2 := laws_markPacketS.st S1.1 i (by rw [List.length_set]; exact hiL) 1 (by decide) (.int .i64 (k + 1)) ⟨k, k + 1, (L.getD i z44).f2⟩ (by simp [List.getD_eq_getElem?_getD, List.getElem?_set_self hiL]; rfl)
  rw [List.set_set] at S2
  rw [← hxi] at S1 S2
  simp only [Nat.add_zero] at S1 S2
  obtain ⟨ca, hca⟩ := S1.2.2.1; have hfa := S1.2.2.2; obtain ⟨cb2, hcb2⟩ := S2.2.2.1; have hfb := S2.2.2.2
  have hk1 : wrap64 (k + 1) = k + 1 := by have := HI.out; have := HN.out; unfold wrap64; omega
  have hk2 : wrap64 (k + 1 + 1) = k + 1 + 1 := by have := HI.out; have := HN.out; unfold wrap64; omega
  have HS1 := am_ S1; have HS2 := am_ S2; have p0 := eq_true cx; have p1 := eq_true c1; have HLN := am_ hLn; have HIL := am_ hiL; have HXI := am_ hxi; clear c1 cx S1 S2 hgb hgl hLn hiL hxi en
  have HG := am_ (show L.getD i z44 = l0.getD i z44 from by
   obtain ⟨dn, hdn, hL, _⟩ := HL.out
   rw [hL, List.getD_eq_getElem?_getD, List.getElem?_append_right (by omega), hdn, Nat.sub_self, List.getElem?_drop, Nat.add_zero, ← List.getD_eq_getElem?_getD])
  go_wp2
  go_loopg [1, 6] 16 (fun g1 v1 v6 w' => ∃ (k2 y : Int) (j : Nat) (X : S44), v1 = .int .i64 k2 ∧ v6 = .int .i64 y ∧ Aside0 (y = (j : Int) ∧ j ≤ 16 ∧ g1 = 16 - j ∧ k2 = k + 2 + y) ∧ Aside0 (laws_markPacketS.mb X k2 (16 - j) = laws_markPacketS.mk (l0.getD i z44) k) ∧ Aside0 (Kd.Q k44 44 w' w0.heap.size P0_ (.slice (some ⟨g, o, none⟩) l0.length c) (L.set i X)) ∧ Aside0 (Kept w w' (fun k_ => P0_ k_)) ∧ Aside0 (Below w0.heap.size w0 w'))
  case atStart =>
   have e : wrap64 (k + 1 + 1) = k + 2 := by rw [hk2]; omega
   rw [e]
   exact ⟨_, 0, 0, ⟨k, k + 1, (L.getD i z44).f2⟩, rfl, rfl, ⟨⟨rfl, by omega, rfl, by omega⟩⟩, ⟨by rw [HG.out]; rfl⟩, ⟨by have := HS2.out.1; rw [HXI.out] at this ⊢; exact this⟩, ⟨(HK.out.setCell (.inl HOK.out) _).setCell (.inl HOK.out) _⟩, ⟨(HB.out.setCell GB.out _).setCell GB.out _⟩⟩
  case round =>
   clear HS1 HS2 HO HK HB hca hfa hcb2 hfb; obtain ⟨k2, y, j, X, rfl, rfl, HJ, HX, HO, HK, HB⟩ := hrel
   by_cases c2 : y < 16
   case neg =>
    have cb2 : decide (y < 16) = false := decide_eq_false c2
    have hj : j = 16 := by have := HJ.out; omega
    have hk2' : k2 = k + 18 := by have := HJ.out; omega
    subst hj; have hx := HX.out; rw [Nat.sub_self, laws_markPacketS.mb] at hx; have HX2 := am_ hx; clear c2 hx
    go_wp2
    have hx1 : wrap64 (x + 1) = x + 1 := by have := HI.out; have := HN.out; have := CX.out; unfold wrap64; omega
    rw [hx1]
    go_roundg (l0.length - (i + 1))
    case measure => have := HI.out; have := CX.out; omega
    case rel =>
     refine ⟨_, _, i + 1, L.set i X, rfl, rfl, ⟨⟨by have := HI.out; omega, by have := HI.out; have := HIL.out; omega, rfl, by have := HI.out; omega, by rw [List.length_set]; exact HLN.out⟩⟩, ⟨?_⟩, HO, HK, HB⟩
     obtain ⟨dn, hdn, hL, hm⟩ := HL.out
     have hil : i < l0.length := by have := HI.out; have := CX.out; omega
     have hd : l0.drop i = l0.getD i z44 :: l0.drop (i + 1) := by
      rw [List.drop_eq_getElem_cons hil, List.getD_eq_getElem?_getD, List.getElem?_eq_getElem hil]; rfl
     refine ⟨dn ++ [X], by simp [hdn], ?_, ?_⟩
     ·rw [hL, hd, List.set_append_right _ _ (by omega), hdn, Nat.sub_self]
      simp
     ·rw [hd, laws_markPacketS.m, ← HX2.out] at hm
      rw [← hm, hk2']
      simp
   have cb2 : decide (y < 16) = true := decide_eq_true c2
   have cy : 0 ≤ y := by have := HJ.out; omega
   have CY := am_ (show 0 ≤ y ∧ y < 16 from ⟨cy, c2⟩)
   have hyj : y.toNat = j := by have := HJ.out; omega
   have S3 := laws_markPacketS.st HO.out i (by rw [List.length_set]; exact HIL.out) (2 + j) (by have := HJ.out; omega) (.int .u8 (k2 % 256)) (laws_markPacketS.sb X j (k2 % 256)) (by
    have e : (L.set i X).getD i z44 = X := by rw [List.getD_eq_getElem?_getD, List.getElem?_set_self HIL.out]; rfl
    rw [e]
    exact laws_markPacketS.sb_E X j (by have := HJ.out; omega) _)
   rw [List.set_set, ← hyj, ← HXI.out, ← Nat.add_assoc] at S3; obtain ⟨ca, hca⟩ := S3.2.2.1; have hfa := S3.2.2.2
   have hk3 : wrap64 (k2 + 1) = k2 + 1 := by have := HI.out; have := HN.out; have := HJ.out; unfold wrap64; omega
   have HS3 := am_ S3; have HYJ := am_ hyj; have q0 := eq_true cy; have q1 := eq_true c2; clear c2 cy S3 hyj
   go_wp2
   rw [hk3]
   have hy1 : wrap64 (y + 1) = y + 1 := by have := CY.out; unfold wrap64; omega
   rw [hy1]
   go_roundg (16 - (j + 1))
   case measure => have := HJ.out; have := CY.out; omega
   case rel =>
    refine ⟨_, _, j + 1, laws_markPacketS.sb X j (k2 % 256), rfl, rfl, ⟨⟨by have := HJ.out; omega, by have := HJ.out; have := CY.out; omega, rfl, by have := HJ.out; omega⟩⟩, ⟨?_⟩, ⟨?_⟩, ⟨HK.out.setCell (.inl HOK.out) _⟩, ⟨HB.out.setCell GB.out _⟩⟩
    ·have h1 := HX.out
     have h2 : 16 - j = (16 - (j + 1)) + 1 := by have := HJ.out; have := CY.out; omega
     rw [h2, laws_markPacketS.mb] at h1
     have h3 : 15 - (16 - (j + 1)) = j := by have := HJ.out; have := CY.out; omega
     rw [h3] at h1
     exact h1
    ·have := HS3.out.1
     rw [HXI.out] at this ⊢
     have e : laws_markPacketS.sb X j (k2 % 256) = laws_markPacketS.sb X y.toNat (k2 % 256) := by rw [HYJ.out]
     rw [e]
     exact this
/-! ### laws_markPlayer: function 27 -/
def laws_markPlayer.f (a0_0 : Int) (a0_1 : Int) (a0_2 : Int) (a0_3 : Int) (a0_4 : Int) (l0_5 : List (S44)) (a1 : Int) : Option (Int × (List (S44))) := (laws_markPacketS.f l0_5 a1).bind fun bt113 => (some (bt113.1, bt113.2))
set_option maxHeartbeats 8000000 in
set_option maxRecDepth 100000 in
theorem laws_markPlayer.calls (a0_0 : Int) (a0_1 : Int) (a0_2 : Int) (a0_3 : Int) (a0_4 : Int) (P0_5_ : Nat → Prop) (u9000_ : Value) (l0_5 : List (S44)) (a1 : Int) (r1 : Int) (r2 : List (S44)) (w0 w : World) (hB : Below w0.heap.size w0 w) (ho0_5 : Kd.Q k44 44 w w0.heap.size P0_5_ u9000_ l0_5) (h : laws_markPlayer.f a0_0 a0_1 a0_2 a0_3 a0_4 l0_5 a1 = some (r1, r2)) :
  Calls Try.prog 27 #[.agg #[.int .i64 a0_0, .int .i64 a0_1, .int .i64 a0_2, .int .i64 a0_3, .int .i64 a0_4, u9000_], .int .i64 a1] w fun e w' => e = .returned (.int .i64 r1) ∧ Kd.Q k44 44 w' w0.heap.size (fun k_ => (P0_5_ k_ ∨ w.heap.size ≤ k_)) u9000_ r2 ∧ Below w0.heap.size w0 w' ∧ Kept w w' (fun k_ => P0_5_ k_) := by
 have hu35 := Try.underlying35
 have HO0_5 := am_ (show Kd.Q k44 44 w w0.heap.size (fun k_ => (P0_5_ k_ ∨ w.heap.size ≤ k_)) u9000_ l0_5 from Kd.Q_mono ho0_5 (fun k_ hk => (.inl hk)))
 have HK := am_ (Kept.refl w (fun k_ => P0_5_ k_))
 have HW0 := am_ hB.size; have HB := am_ hB; clear hB
 have H : ((laws_markPacketS.f l0_5 a1).bind fun bt113 => (some (bt113.1, bt113.2))) = some (r1, r2) := h
 clear h; replace H := Option.bind_eq_some_iff.mp H; obtain ⟨⟨t113, t114⟩, A30, H⟩ := H
 replace H : (some (t113, t114)) = some (r1, r2) := H
 have A3 := am_ A30; clear A30; simp only [Option.some.injEq, Prod.mk.injEq] at H; obtain ⟨rfl, rfl⟩ := H; obtain ⟨Ao4, co4, eo4, _⟩ := Kd.Q_slice HO0_5.out; subst eo4
 go_enter Try.func27, Try.ntmps27
 go_wp2_with (first | ((with_reducible refine gate_dst (N := 2) rfl ?_); refine box_event ?hg (N := 2) ?hd (cs := #[.int .i64 a0_0, .int .i64 a0_1, .int .i64 a0_2, .int .i64 a0_3, .int .i64 a0_4, .slice Ao4 l0_5.length co4]) (t := 35) ?hr ?_; (case hd => rfl); (case hg => rfl); (case hr => first | (go_simp; done) | (go_simp; rfl)); intro gb112 hg w5 hbox hb; have n0_ := am_ (Kd.Q_below (by (with_reducible repeat (first | apply Kd.Q_alloc | apply Kd.Q_drewN | apply Kd.Q_drew)); exact HO0_5.out) hb); have n1_ := am_ (Kept.below (S := (fun k_ => P0_5_ k_)) (by repeat (first | (with_reducible first | exact HK.out | apply Kept.alloc | apply Kept.drewN | apply Kept.drew) | exact HK.out)) hb); have n2_ := am_ (below_step belowNow hb); have n3_ := am_ (hbox); have n4_ := am_ ((by rw [hg]; exact (by first | exact HK.out.1 | exact (show Kept w _ (fun k_ => P0_5_ k_) from by repeat (first | (with_reducible first | exact HK.out | apply Kept.alloc | apply Kept.drewN | apply Kept.drew) | exact HK.out)).1) : w.heap.size ≤ gb112)); have n5_ := am_ ((by rw [hg]; exact (below_size belowNow) : w0.heap.size ≤ gb112)); clear HO0_5; clear HK; clear HB; have HO0_5 := n0_; have HK := n1_; have HB := n2_; have BK112 := n3_; have GW112 := n4_; have GE112 := n5_; clear n0_ n1_ n2_ n3_ n4_ n5_; clear hb hbox hg; have hcz6_0 := cz2_ BK112.out 0 rfl; have hcz6_1 := cz2_ BK112.out 1 rfl; have hcz6_2 := cz2_ BK112.out 2 rfl; have hcz6_3 := cz2_ BK112.out 3 rfl; have hcz6_4 := cz2_ BK112.out 4 rfl; have hcz6_5 := cz2_ BK112.out 5 rfl; have hfz6_0 := blk_frozen BK112.out 0; have hfz6_1 := blk_frozen BK112.out 1; have hfz6_2 := blk_frozen BK112.out 2; have hfz6_3 := blk_frozen BK112.out 3; have hfz6_4 := blk_frozen BK112.out 4; have hfz6_5 := blk_frozen BK112.out 5) | ((with_reducible refine gate_callee (f := 36) rfl ?_); refine goesL_ (some 8) rfl rfl Try.func36 (by kernel_rfl) rfl #[.slice Ao4 l0_5.length co4, .int .i64 a1] rfl (by (try simp only [List.map_toArray, List.map_cons, List.map_nil]); first | done | rfl | (simp only [List.length_drop, List.length_take]; rfl)) ?_; (with_reducible refine (laws_markPacketS.calls (fun k_ => some k_ = (.slice Ao4 l0_5.length co4 : Value).ownBlock) (.slice Ao4 l0_5.length co4) l0_5 a1 t113 t114 w0 _ ?side1 ?side2 A3.out).mono ?_); (case side1 => repeat (first | (with_reducible first | exact HB.out | apply below_alloc | apply pw_below_drewN | apply below_drew1 | refine below_set ?_ GE112.out) | exact HB.out)); (case side2 => exact Kd.Q_tight rfl HO0_5.out); rintro e w7 ⟨rfl, hy0, hb, hkp⟩; refine ⟨_, rfl, ?_⟩; have n0_ := am_ (Kd.Q_reok rfl hy0 (fun k_ e_ => HO0_5.out.1 k_ e_)); have n1_ := am_ (blk_kept blkNow hkp (fun hs_ => (fun e_ => (Kd.Q_ne HO0_5.out BK112.out (by decide)) e_) hs_)); have n2_ := am_ (Kept.then_ (S := (fun k_ => P0_5_ k_)) (by repeat (first | (with_reducible first | exact HK.out | apply Kept.alloc | apply Kept.drewN | apply Kept.drew | refine Kept.setCell ?_ (.inr GW112.out) _) | exact HK.out)) hkp (fun k_ hs_ => (fun e_ => (HO0_5.out.1 k_ e_.symm)) hs_)); have n3_ := am_ (hb); clear HO0_5; clear BK112; clear HK; clear HB; have HO0_5 := n0_; have BK112 := n1_; have HK := n2_; have HB := n3_; clear n0_ n1_ n2_ n3_; (try clear hb); (try clear hkp); (try clear hy0)))
 go_ret
 exact ⟨by first | rfl | (simp [errW_none, errW_some] <;> rfl) | (simp [*, errW_none, errW_some] <;> rfl), by (with_reducible repeat (first | apply Kd.Q_alloc | apply Kd.Q_drewN | apply Kd.Q_drew)); exact HO0_5.out, belowNow, by repeat (first | (with_reducible first | exact HK.out | apply Kept.alloc | apply Kept.drewN | apply Kept.drew | refine Kept.setCell ?_ (.inr GW112.out) _) | exact HK.out)⟩

/-! ### laws_heldPacketS: function 58 -/
def laws_heldPacketS.bs (f : S39) : List Int := [f.f0, f.f1, f.f2, f.f3, f.f4, f.f5, f.f6, f.f7, f.f8, f.f9, f.f10, f.f11, f.f12, f.f13, f.f14, f.f15]
/-- From the frame's byte number 16 - n on. -/
def laws_heldPacketS.hb (f : S39) (k : Int) : Nat → Bool
 | 0 => true
 | n + 1 => if rd (laws_heldPacketS.bs f) (15 - (n : Int)) = k % 256 then laws_heldPacketS.hb f (k + 1) n else false
def laws_heldPacketS.h : List S44 → Int → Int
 | [], k => k
 | x :: r, k => if x.f0 = k then (if x.f1 = k + 1 then (if laws_heldPacketS.hb x.f2 (k + 2) 16 = true then laws_heldPacketS.h r (k + 18) else -1) else -1) else -1
def laws_heldPacketS.f (l0 : List S44) (a1 : Int) : Option Int := if 0 ≤ a1 ∧ a1 + 18 * (l0.length : Int) ≤ 1000000000000 then some (laws_heldPacketS.h l0 a1) else none
theorem laws_heldPacketS.drop_h (l : List S44) (i : Nat) (h : i < l.length) (k : Int) : laws_heldPacketS.h (l.drop i) k = if (rd_T44 l (i : Int)).f0 = k then (if (rd_T44 l (i : Int)).f1 = k + 1 then (if laws_heldPacketS.hb (rd_T44 l (i : Int)).f2 (k + 2) 16 = true then laws_heldPacketS.h (l.drop (i + 1)) (k + 18) else -1) else -1) else -1 := by
 have e : rd_T44 l (i : Int) = l[i] := by simp [rd_T44, List.getD_eq_getElem?_getD, List.getElem?_eq_getElem h]
 rw [List.drop_eq_getElem_cons h, e]
 rfl
theorem laws_heldPacketS.byte_at (x : S44) (j : Nat) (h : j < 16) (c : List Value) (w : World) (hc : k44.K w x c) : c[2 + j]? = some (.int .u8 (rd (laws_heldPacketS.bs x.f2) (j : Int))) := by
 rw [k44_open hc]
 match j, h with
 | 0, _ | 1, _ | 2, _ | 3, _ | 4, _ | 5, _ | 6, _ | 7, _ | 8, _ | 9, _ | 10, _ | 11, _ | 12, _ | 13, _ | 14, _ | 15, _ => rfl
 | n + 16, h => exact absurd h (by omega)
set_option maxHeartbeats 8000000 in
set_option maxRecDepth 100000 in
theorem laws_heldPacketS.calls (A0 : Option Addr) (c0 : Nat) (l0 : List S44) (a1 : Int) (r : Int) (w : World) (hr0 : Kd.C k44 w A0 l0.length l0) (hc0 : l0.length ≤ c0) (h : laws_heldPacketS.f l0 a1 = some r) :
  Calls Try.prog 58 #[.slice A0 l0.length c0, .int .i64 a1] w fun e w' => e = .returned (.int .i64 r) ∧ Drawn0 w w' := by
 have hu26 := Try.underlying26; have hu44 := Try.underlying44; have hu39 := Try.underlying39
 have hn : 0 ≤ a1 ∧ a1 + 18 * (l0.length : Int) ≤ 1000000000000 := by
  unfold laws_heldPacketS.f at h
  split at h
  ·assumption
  ·cases h
 rw [laws_heldPacketS.f, if_pos hn] at h; have HE := am_ (Option.some.inj h); have HN := am_ hn; have HR0 := am_ hr0; have HC0 := am_ hc0; clear hr0 hc0 hn h
 go_enter Try.func58, Try.ntmps58
 go_wp2
 go_loopg [1, 5] l0.length (fun g v1 v5 w' => ∃ (k x : Int) (i : Nat), v1 = .int .i64 k ∧ v5 = .int .i64 x ∧ Aside0 (x = (i : Int) ∧ i ≤ l0.length ∧ g = l0.length - i ∧ k = a1 + 18 * x) ∧ Aside0 (laws_heldPacketS.h (l0.drop i) k = r) ∧ Drawn0 w w')
 case atStart => exact ⟨a1, 0, 0, rfl, rfl, ⟨⟨rfl, Nat.zero_le _, rfl, by omega⟩⟩, HE, Drawn0.refl _⟩
 case round =>
  obtain ⟨k, x, i, rfl, rfl, HI, HK, HD⟩ := hrel; obtain ⟨nq, rfl⟩ := HD
  by_cases c : x < (l0.length : Int)
  ·have cb : decide (x < (l0.length : Int)) = true := decide_eq_true c
   have cx : 0 ≤ x := by have := HI.out; omega
   have CX := am_ (show 0 ≤ x ∧ x < (l0.length : Int) from ⟨cx, c⟩); obtain ⟨ad, cl, e1, hcl, hcK, hcc⟩ := Kd.C_get HR0.out z44 x cx c; subst e1
   have hx0 : (w.drewN nq).cell? (ad.add (x.toNat * 18)) = some (.int .i64 (rd_T44 l0 x).f0) := by have := hcc 0 (.int .i64 (rd_T44 l0 x).f0) (by rw [k44_open hcK]; rfl); rw [Nat.add_zero] at this; exact this
   have hx1 : (w.drewN nq).cell? ⟨(ad.add (x.toNat * 18)).block, (ad.add (x.toNat * 18)).off + 1, none⟩ = some (.int .i64 (rd_T44 l0 x).f1) := by rw [← add_field _ _ 1 (by omega)]; exact hcc 1 (.int .i64 (rd_T44 l0 x).f1) (by rw [k44_open hcK]; rfl)
   have HB := am_ (show ∀ j : Nat, j < 16 → ∀ n, (w.drewN n).cell? ⟨(ad.add (x.toNat * 18)).block, (ad.add (x.toNat * 18)).off + 2 + j, none⟩ = some (.int .u8 (rd (laws_heldPacketS.bs (rd_T44 l0 x).f2) (j : Int))) from fun j hj n => by rw [Nat.add_assoc, ← add_field _ _ (2 + j) (by omega)]; exact hcc (2 + j) _ (laws_heldPacketS.byte_at _ j hj _ _ hcK))
   have HK2 := am_ (show (if (rd_T44 l0 x).f0 = k then (if (rd_T44 l0 x).f1 = k + 1 then (if laws_heldPacketS.hb (rd_T44 l0 x).f2 (k + 2) 16 = true then laws_heldPacketS.h (l0.drop (i + 1)) (k + 18) else -1) else -1) else -1) = r from by have hi := HI.out; rw [hi.1]; have := HK.out; rw [laws_heldPacketS.drop_h l0 i (by omega) k] at this; exact this)
   have hk1 : wrap64 (k + 1) = k + 1 := by have := HI.out; have := HN.out; unfold wrap64; omega
   have hk2 : wrap64 (k + 1 + 1) = k + 1 + 1 := by have := HI.out; have := HN.out; unfold wrap64; omega
   have p0 := eq_true cx; have p1 := eq_true c; clear c cx hcc hcK hcl HK
   by_cases d0 : (rd_T44 l0 x).f0 = k
   case neg =>
    have hr := HK2.out; rw [if_neg d0] at hr; have t0 : ((rd_T44 l0 x).f0 == k) = false := beq_eq_false_iff_ne.mpr d0; have t1 : ((rd_T44 l0 x).f0 != k) = true := bne_iff_ne.mpr d0; subst hr
    go_wp2
    go_ret
    exact ⟨rfl, _, rfl⟩
   have t0 : ((rd_T44 l0 x).f0 == k) = true := beq_iff_eq.mpr d0; have t1 : ((rd_T44 l0 x).f0 != k) = false := bne_eq_false_iff_eq.mpr d0; have HK3 := am_ (HK2.out); rw [if_pos d0] at HK3; clear d0 HK2
   by_cases d1 : (rd_T44 l0 x).f1 = k + 1
   case neg =>
    have hr := HK3.out; rw [if_neg d1] at hr; have s0 : ((rd_T44 l0 x).f1 == k + 1) = false := beq_eq_false_iff_ne.mpr d1; have s1 : ((rd_T44 l0 x).f1 != k + 1) = true := bne_iff_ne.mpr d1; subst hr
    go_wp2
    go_ret
    exact ⟨rfl, _, rfl⟩
   have s0 : ((rd_T44 l0 x).f1 == k + 1) = true := beq_iff_eq.mpr d1; have s1 : ((rd_T44 l0 x).f1 != k + 1) = false := bne_eq_false_iff_eq.mpr d1; rw [if_pos d1] at HK3; clear d1
   go_wp2
   go_loopg [1, 6] 16 (fun g v1 v6 w' => ∃ (q y : Int) (b : Nat), v1 = .int .i64 q ∧ v6 = .int .i64 y ∧ Aside0 (y = (b : Int) ∧ b ≤ 16 ∧ g = 16 - b ∧ q = k + 2 + y) ∧ Aside0 ((if laws_heldPacketS.hb (rd_T44 l0 x).f2 q (16 - b) = true then laws_heldPacketS.h (l0.drop (i + 1)) (k + 18) else -1) = r) ∧ Drawn0 w w')
   case atStart => exact ⟨k + 1 + 1, 0, 0, by first | rfl | simp [*], rfl, ⟨⟨rfl, Nat.zero_le _, rfl, by omega⟩⟩, ⟨by rw [show k + 1 + 1 = k + 2 by omega]; exact HK3.out⟩, ⟨_, rfl⟩⟩
   case round =>
    clear HK3; obtain ⟨q, y, b, rfl, rfl, HY, HQ, HD⟩ := hrel; obtain ⟨nr, rfl⟩ := HD
    by_cases e : y < 16
    ·have eb : decide (y < 16) = true := decide_eq_true e
     have ey : 0 ≤ y := by have := HY.out; omega
     have hyb : y.toNat = b := by have := HY.out; omega
     have hB := HB.out b (by have := HY.out; omega) nr
     rw [← hyb] at hB
     rw [show ((y.toNat : Nat) : Int) = y by omega] at hB
     have hq1 : wrap64 (q + 1) = q + 1 := by have := HY.out; have := HI.out; have := HN.out; unfold wrap64; omega
     have HQ1 := am_ (show (if rd (laws_heldPacketS.bs (rd_T44 l0 x).f2) y = q % 256 then (if laws_heldPacketS.hb (rd_T44 l0 x).f2 (q + 1) (16 - (b + 1)) = true then laws_heldPacketS.h (l0.drop (i + 1)) (k + 18) else -1) else -1) = r from by
      have h1 := HQ.out; have hy := HY.out
      rw [show 16 - b = (16 - (b + 1)) + 1 by omega] at h1
      have h2 : laws_heldPacketS.hb (rd_T44 l0 x).f2 q ((16 - (b + 1)) + 1) = if rd (laws_heldPacketS.bs (rd_T44 l0 x).f2) (15 - ((16 - (b + 1) : Nat) : Int)) = q % 256 then laws_heldPacketS.hb (rd_T44 l0 x).f2 (q + 1) (16 - (b + 1)) else false := rfl
      rw [h2, show (15 - ((16 - (b + 1) : Nat) : Int)) = y by omega] at h1
      by_cases z : rd (laws_heldPacketS.bs (rd_T44 l0 x).f2) y = q % 256
      ·rw [if_pos z] at h1 ⊢; exact h1
      ·rw [if_neg z] at h1 ⊢; simpa using h1)
     have P0 := am_ (show 0 ≤ y ∧ y < 16 from ⟨ey, e⟩); have g0 := eq_true ey; have g1 := eq_true e; clear e ey HQ hyb
     by_cases z : rd (laws_heldPacketS.bs (rd_T44 l0 x).f2) y = q % 256
     case neg =>
      have hr := HQ1.out; rw [if_neg z] at hr; have z0 : (rd (laws_heldPacketS.bs (rd_T44 l0 x).f2) y == q % 256) = false := beq_eq_false_iff_ne.mpr z; have z1 : (rd (laws_heldPacketS.bs (rd_T44 l0 x).f2) y != q % 256) = true := bne_iff_ne.mpr z; subst hr
      go_wp2
      go_ret
      exact ⟨rfl, _, rfl⟩
     have z0 : (rd (laws_heldPacketS.bs (rd_T44 l0 x).f2) y == q % 256) = true := beq_iff_eq.mpr z; have z1 : (rd (laws_heldPacketS.bs (rd_T44 l0 x).f2) y != q % 256) = false := bne_eq_false_iff_eq.mpr z; have HQ2 := am_ HQ1.out; rw [if_pos z] at HQ2; clear z HQ1
     go_wp2
     go_roundg (15 - b)
     case measure => have := HY.out; have := P0.out; omega
     case rel =>
      have hy := HY.out; have h0 := P0.out
      exact ⟨wrap64 (q + 1), wrap64 (y + 1), b + 1, rfl, rfl, ⟨⟨by unfold wrap64; omega, by omega, by omega, by rw [hq1]; unfold wrap64; omega⟩⟩, ⟨by rw [hq1]; exact HQ2.out⟩, ⟨_, rfl⟩⟩
    ·have eb : decide (y < 16) = false := decide_eq_false e
     have hb : b = 16 := by have := HY.out; omega
     clear e; subst hb; have hq := HY.out
     have HQ3 := am_ (show laws_heldPacketS.h (l0.drop (i + 1)) q = r from by have := HQ.out; rw [show k + 18 = q by omega] at this; exact this)
     clear HQ hq
     go_wp2
     go_roundg (l0.length - (i + 1))
     case measure => have := HI.out; have := CX.out; omega
     case rel =>
      have hi := HI.out; have hx := CX.out; have hy := HY.out; have hn := HN.out
      exact ⟨q, wrap64 (x + 1), i + 1, rfl, rfl, ⟨⟨by unfold wrap64; omega, by omega, by omega, by unfold wrap64; omega⟩⟩, HQ3, ⟨_, rfl⟩⟩
  ·have hi : i = l0.length := by have := HI.out; omega
   have cb : decide (x < (l0.length : Int)) = false := decide_eq_false c; clear c; have hr := HK.out; rw [hi, List.drop_length] at hr
   have hr' : k = r := hr
   clear hr
   subst hr'
   go_wp2
   go_ret
   exact ⟨rfl, _, rfl⟩

/-! ### laws_heldPlayer: function 28 -/
def laws_heldPlayer.f (a0_0 : Int) (a0_1 : Int) (a0_2 : Int) (a0_3 : Int) (a0_4 : Int) (l0_5 : List (S44)) (a1 : Int) : Option (Int) := (laws_heldPacketS.f l0_5 a1).bind fun t116 => (if t116 < 0 then (some (-1)) else (some t116))
set_option maxHeartbeats 8000000 in
set_option maxRecDepth 100000 in
theorem laws_heldPlayer.calls (a0_0 : Int) (a0_1 : Int) (a0_2 : Int) (a0_3 : Int) (a0_4 : Int) (A0_5 : Option Addr) (c0_5 : Nat) (l0_5 : List (S44)) (a1 : Int) (r : Int) (w : World) (hr0_5 : Kd.C k44 w A0_5 l0_5.length l0_5) (hc0_5 : l0_5.length ≤ c0_5) (h : laws_heldPlayer.f a0_0 a0_1 a0_2 a0_3 a0_4 l0_5 a1 = some r) :
  Calls Try.prog 28 #[.agg #[.int .i64 a0_0, .int .i64 a0_1, .int .i64 a0_2, .int .i64 a0_3, .int .i64 a0_4, .slice A0_5 l0_5.length c0_5], .int .i64 a1] w fun e w' => e = .returned (.int .i64 r) ∧ Below w.heap.size w w' := by
 have hu35 := Try.underlying35; have HR0_5 := am_ hr0_5; have HC0_5 := am_ hc0_5; clear hr0_5 hc0_5; have HB := am_ (Below.refl w.heap.size w)
 have H : ((laws_heldPacketS.f l0_5 a1).bind fun t116 => (if t116 < 0 then (some (-1)) else (some t116))) = some r := h
 clear h; replace H := Option.bind_eq_some_iff.mp H; obtain ⟨t116, A30, H⟩ := H
 replace H : (if t116 < 0 then (some (-1)) else (some t116)) = some r := H
 have A3 := am_ A30; clear A30
 by_cases c4 : t116 < 0
 case pos =>
  rw [if_pos c4] at H; have c4b0 : decide (t116 < 0) = true := decide_eq_true c4; clear c4; obtain rfl := Option.some.inj H
  go_enter Try.func28, Try.ntmps28
  go_wp2_with (first | ((with_reducible refine gate_dst (N := 2) rfl ?_); refine box_event ?hg (N := 2) ?hd (cs := #[.int .i64 a0_0, .int .i64 a0_1, .int .i64 a0_2, .int .i64 a0_3, .int .i64 a0_4, .slice A0_5 l0_5.length c0_5]) (t := 35) ?hr ?_; (case hd => rfl); (case hg => rfl); (case hr => first | (go_simp; done) | (go_simp; rfl)); intro gb115 hg w5 hbox hb; have n0_ := am_ (below_step belowNow hb); have n1_ := am_ (hbox); have n2_ := am_ ((by rw [hg]; exact (below_size belowNow) : w.heap.size ≤ gb115)); have n3_ := n2_; clear HB; have HB := n0_; have BK115 := n1_; have GW115 := n2_; have GE115 := n3_; clear n0_ n1_ n2_ n3_; clear hb hbox hg; have hcz6_0 := cz2_ BK115.out 0 rfl; have hcz6_1 := cz2_ BK115.out 1 rfl; have hcz6_2 := cz2_ BK115.out 2 rfl; have hcz6_3 := cz2_ BK115.out 3 rfl; have hcz6_4 := cz2_ BK115.out 4 rfl; have hcz6_5 := cz2_ BK115.out 5 rfl; have hfz6_0 := blk_frozen BK115.out 0; have hfz6_1 := blk_frozen BK115.out 1; have hfz6_2 := blk_frozen BK115.out 2; have hfz6_3 := blk_frozen BK115.out 3; have hfz6_4 := blk_frozen BK115.out 4; have hfz6_5 := blk_frozen BK115.out 5) | ((with_reducible refine gate_callee (f := 58) rfl ?_); refine goesL_ (some 8) rfl rfl Try.func58 (by kernel_rfl) rfl #[.slice A0_5 l0_5.length c0_5, .int .i64 a1] rfl (by (try simp only [List.map_toArray, List.map_cons, List.map_nil]); first | done | rfl | (simp only [List.length_drop, List.length_take]; rfl)) ?_; (with_reducible refine (laws_heldPacketS.calls _ _ l0_5 a1 t116 _ ?side1 ?side2 A3.out).mono ?_); (case side1 => repeat (first | exact (Kd.C_below HR0_5.out HB.out) | (with_reducible refine Kd.C_alloc ?_ _) | (with_reducible refine Kd.C_drewN ?_ _) | (with_reducible refine Kd.C_drew ?_))); (case side2 => exact HC0_5.out); rintro e w' ⟨rfl, ⟨nd, rfl⟩⟩; refine ⟨_, rfl, ?_⟩))
  go_ret
  exact ⟨by first | rfl | (simp [errW_none, errW_some] <;> rfl) | (simp [*, errW_none, errW_some] <;> rfl), belowNow⟩
 rw [if_neg c4] at H; have c4b0 : decide (t116 < 0) = false := decide_eq_false c4; clear c4; obtain rfl := Option.some.inj H
 go_enter Try.func28, Try.ntmps28
 go_wp2_with (first | ((with_reducible refine gate_dst (N := 2) rfl ?_); refine box_event ?hg (N := 2) ?hd (cs := #[.int .i64 a0_0, .int .i64 a0_1, .int .i64 a0_2, .int .i64 a0_3, .int .i64 a0_4, .slice A0_5 l0_5.length c0_5]) (t := 35) ?hr ?_; (case hd => rfl); (case hg => rfl); (case hr => first | (go_simp; done) | (go_simp; rfl)); intro gb115 hg w7 hbox hb; have n0_ := am_ (below_step belowNow hb); have n1_ := am_ (hbox); have n2_ := am_ ((by rw [hg]; exact (below_size belowNow) : w.heap.size ≤ gb115)); have n3_ := n2_; clear HB; have HB := n0_; have BK115 := n1_; have GW115 := n2_; have GE115 := n3_; clear n0_ n1_ n2_ n3_; clear hb hbox hg; have hcz8_0 := cz2_ BK115.out 0 rfl; have hcz8_1 := cz2_ BK115.out 1 rfl; have hcz8_2 := cz2_ BK115.out 2 rfl; have hcz8_3 := cz2_ BK115.out 3 rfl; have hcz8_4 := cz2_ BK115.out 4 rfl; have hcz8_5 := cz2_ BK115.out 5 rfl; have hfz8_0 := blk_frozen BK115.out 0; have hfz8_1 := blk_frozen BK115.out 1; have hfz8_2 := blk_frozen BK115.out 2; have hfz8_3 := blk_frozen BK115.out 3; have hfz8_4 := blk_frozen BK115.out 4; have hfz8_5 := blk_frozen BK115.out 5) | ((with_reducible refine gate_callee (f := 58) rfl ?_); refine goesL_ (some 8) rfl rfl Try.func58 (by kernel_rfl) rfl #[.slice A0_5 l0_5.length c0_5, .int .i64 a1] rfl (by (try simp only [List.map_toArray, List.map_cons, List.map_nil]); first | done | rfl | (simp only [List.length_drop, List.length_take]; rfl)) ?_; (with_reducible refine (laws_heldPacketS.calls _ _ l0_5 a1 t116 _ ?side1 ?side2 A3.out).mono ?_); (case side1 => repeat (first | exact (Kd.C_below HR0_5.out HB.out) | (with_reducible refine Kd.C_alloc ?_ _) | (with_reducible refine Kd.C_drewN ?_ _) | (with_reducible refine Kd.C_drew ?_))); (case side2 => exact HC0_5.out); rintro e w' ⟨rfl, ⟨nd, rfl⟩⟩; refine ⟨_, rfl, ?_⟩))
 go_ret
 exact ⟨by first | rfl | (simp [errW_none, errW_some] <;> rfl) | (simp [*, errW_none, errW_some] <;> rfl), belowNow⟩

/-! ### spec_l1In: function 48 -/
def spec_l1In.f (a0 : Int) (a1 : Int) (a2 : Int) : Option (Bool) := if a0 ≥ a1 then (some (decide (a0 ≤ a2))) else (some false)
set_option maxHeartbeats 8000000 in
set_option maxRecDepth 100000 in
theorem spec_l1In.calls (a0 : Int) (a1 : Int) (a2 : Int) (r : Bool) (w : World) (h : spec_l1In.f a0 a1 a2 = some r) :
  Calls Try.prog 48 #[.int .i64 a0, .int .i64 a1, .int .i64 a2] w fun e w' => e = .returned (.bool r) ∧ Drawn0 w w' := by
 have H : (if a0 ≥ a1 then (some (decide (a0 ≤ a2))) else (some false)) = some r := h; clear h
 by_cases c4 : a0 ≥ a1
 case pos =>
  rw [if_pos c4] at H; have c4b0 : decide (a1 ≤ a0) = true := decide_eq_true c4; clear c4; obtain rfl := Option.some.inj H
  go_enter Try.func48, Try.ntmps48
  go_wp2
  go_ret
  exact ⟨by first | rfl | (simp; done) | (simp [*]; done), by repeat (first | exact Drawn0.refl _ | apply Drawn0.step)⟩
 rw [if_neg c4] at H; have c4b0 : decide (a1 ≤ a0) = false := decide_eq_false c4; clear c4; obtain rfl := Option.some.inj H
 go_enter Try.func48, Try.ntmps48
 go_wp2
 go_ret
 exact ⟨by first | rfl | (simp; done) | (simp [*]; done), by repeat (first | exact Drawn0.refl _ | apply Drawn0.step)⟩

/-! ### spec_l12Seq: function 47 -/
def spec_l12Seq.f (a0 : Int) : Option (Bool) := (spec_l1In.f a0 0 1000000).bind fun t117 => (some t117)
set_option maxHeartbeats 8000000 in
set_option maxRecDepth 100000 in
theorem spec_l12Seq.calls (a0 : Int) (r : Bool) (w : World) (h : spec_l12Seq.f a0 = some r) :
  Calls Try.prog 47 #[.int .i64 a0] w fun e w' => e = .returned (.bool r) ∧ Drawn0 w w' := by
 have H : ((spec_l1In.f a0 0 1000000).bind fun t117 => (some t117)) = some r := h
 clear h; replace H := Option.bind_eq_some_iff.mp H; obtain ⟨t117, A20, H⟩ := H
 replace H : (some t117) = some r := H
 have A2 := am_ A20; clear A20; obtain rfl := Option.some.inj H
 go_enter Try.func47, Try.ntmps47
 go_wp2_with (first | ((with_reducible refine gate_callee (f := 48) rfl ?_); refine goesL_ (some 4) rfl rfl Try.func48 (by kernel_rfl) rfl #[.int .i64 a0, .int .i64 0, .int .i64 1000000] rfl (by (try simp only [List.map_toArray, List.map_cons, List.map_nil]); first | done | rfl | (simp only [List.length_drop, List.length_take]; rfl)) ?_; (with_reducible refine (spec_l1In.calls a0 0 1000000 t117 _ A2.out).mono ?_); rintro e w' ⟨rfl, ⟨nd, rfl⟩⟩; refine ⟨_, rfl, ?_⟩))
 go_ret
 exact ⟨by first | rfl | (simp; done) | (simp [*]; done), by repeat (first | exact Drawn0.refl _ | apply Drawn0.step)⟩

/-! ### spec_l4Tick: function 49 -/
def spec_l4Tick.f (a0 : Int) : Option (Bool) := (spec_l1In.f a0 0 1000000000).bind fun t118 => (some t118)
set_option maxHeartbeats 8000000 in
set_option maxRecDepth 100000 in
theorem spec_l4Tick.calls (a0 : Int) (r : Bool) (w : World) (h : spec_l4Tick.f a0 = some r) :
  Calls Try.prog 49 #[.int .i64 a0] w fun e w' => e = .returned (.bool r) ∧ Drawn0 w w' := by
 have H : ((spec_l1In.f a0 0 1000000000).bind fun t118 => (some t118)) = some r := h
 clear h; replace H := Option.bind_eq_some_iff.mp H; obtain ⟨t118, A20, H⟩ := H
 replace H : (some t118) = some r := H
 have A2 := am_ A20; clear A20; obtain rfl := Option.some.inj H
 go_enter Try.func49, Try.ntmps49
 go_wp2_with (first | ((with_reducible refine gate_callee (f := 48) rfl ?_); refine goesL_ (some 4) rfl rfl Try.func48 (by kernel_rfl) rfl #[.int .i64 a0, .int .i64 0, .int .i64 1000000000] rfl (by (try simp only [List.map_toArray, List.map_cons, List.map_nil]); first | done | rfl | (simp only [List.length_drop, List.length_take]; rfl)) ?_; (with_reducible refine (spec_l1In.calls a0 0 1000000000 t118 _ A2.out).mono ?_); rintro e w' ⟨rfl, ⟨nd, rfl⟩⟩; refine ⟨_, rfl, ?_⟩))
 go_ret
 exact ⟨by first | rfl | (simp; done) | (simp [*]; done), by repeat (first | exact Drawn0.refl _ | apply Drawn0.step)⟩

/-! ### spec_l2Level: function 50 -/
def spec_l2Level.f (a0 : Int) : Option (Bool) := (spec_l1In.f a0 (-32767) 32767).bind fun t119 => (some t119)
set_option maxHeartbeats 8000000 in
set_option maxRecDepth 100000 in
theorem spec_l2Level.calls (a0 : Int) (r : Bool) (w : World) (h : spec_l2Level.f a0 = some r) :
  Calls Try.prog 50 #[.int .i64 a0] w fun e w' => e = .returned (.bool r) ∧ Drawn0 w w' := by
 have H : ((spec_l1In.f a0 (-32767) 32767).bind fun t119 => (some t119)) = some r := h
 clear h; replace H := Option.bind_eq_some_iff.mp H; obtain ⟨t119, A20, H⟩ := H
 replace H : (some t119) = some r := H
 have A2 := am_ A20; clear A20; obtain rfl := Option.some.inj H
 go_enter Try.func50, Try.ntmps50
 go_wp2_with (first | ((with_reducible refine gate_callee (f := 48) rfl ?_); refine goesL_ (some 4) rfl rfl Try.func48 (by kernel_rfl) rfl #[.int .i64 a0, .int .i64 (-32767), .int .i64 32767] rfl (by (try simp only [List.map_toArray, List.map_cons, List.map_nil]); first | done | rfl | (simp only [List.length_drop, List.length_take]; rfl)) ?_; (with_reducible refine (spec_l1In.calls a0 (-32767) 32767 t119 _ A2.out).mono ?_); rintro e w' ⟨rfl, ⟨nd, rfl⟩⟩; refine ⟨_, rfl, ?_⟩))
 go_ret
 exact ⟨by first | rfl | (simp; done) | (simp [*]; done), by repeat (first | exact Drawn0.refl _ | apply Drawn0.step)⟩

/-! ### spec_l12Packet: function 51 -/
def spec_l12Packet.f (a0_0 : Int) (a0_1 : Int) (a0_2 : Int) (a0_3 : Int) (a0_4 : Int) (a0_5 : Int) (a0_6 : Int) (a0_7 : Int) (a0_8 : Int) (a0_9 : Int) (a0_10 : Int) (a0_11 : Int) (a0_12 : Int) (a0_13 : Int) (a0_14 : Int) (a0_15 : Int) (a0_16 : Int) (a0_17 : Int) : Option (Bool) := (spec_l4Tick.f a0_0).bind fun t121 => (if t121 = true then ((spec_l12Seq.f a0_1).bind fun t122 => (some t122)) else (some false))
set_option maxHeartbeats 8000000 in
set_option maxRecDepth 100000 in
theorem spec_l12Packet.calls (a0_0 : Int) (a0_1 : Int) (a0_2 : Int) (a0_3 : Int) (a0_4 : Int) (a0_5 : Int) (a0_6 : Int) (a0_7 : Int) (a0_8 : Int) (a0_9 : Int) (a0_10 : Int) (a0_11 : Int) (a0_12 : Int) (a0_13 : Int) (a0_14 : Int) (a0_15 : Int) (a0_16 : Int) (a0_17 : Int) (r : Bool) (w : World) (h : spec_l12Packet.f a0_0 a0_1 a0_2 a0_3 a0_4 a0_5 a0_6 a0_7 a0_8 a0_9 a0_10 a0_11 a0_12 a0_13 a0_14 a0_15 a0_16 a0_17 = some r) :
  Calls Try.prog 51 #[.agg #[.int .i64 a0_0, .int .i64 a0_1, .int .u8 a0_2, .int .u8 a0_3, .int .u8 a0_4, .int .u8 a0_5, .int .u8 a0_6, .int .u8 a0_7, .int .u8 a0_8, .int .u8 a0_9, .int .u8 a0_10, .int .u8 a0_11, .int .u8 a0_12, .int .u8 a0_13, .int .u8 a0_14, .int .u8 a0_15, .int .u8 a0_16, .int .u8 a0_17]] w fun e w' => e = .returned (.bool r) ∧ Below w.heap.size w w' := by
 have hu44 := Try.underlying44; have HB := am_ (Below.refl w.heap.size w)
 have H : ((spec_l4Tick.f a0_0).bind fun t121 => (if t121 = true then ((spec_l12Seq.f a0_1).bind fun t122 => (some t122)) else (some false))) = some r := h
 clear h; replace H := Option.bind_eq_some_iff.mp H; obtain ⟨t121, A20, H⟩ := H
 replace H : (if t121 = true then ((spec_l12Seq.f a0_1).bind fun t122 => (some t122)) else (some false)) = some r := H
 have A2 := am_ A20; clear A20
 by_cases c3 : t121 = true
 case neg =>
  replace c3 := Bool.eq_false_iff.mpr c3; subst c3
  have H1 : (some false) = some r := by rw [if_neg (show ¬ (false = true) by decide)] at H; exact H
  clear H; have H := H1; clear H1; obtain rfl := Option.some.inj H
  go_enter Try.func51, Try.ntmps51
  go_wp2_with (first | ((with_reducible refine gate_dst (N := 1) rfl ?_); refine box_event ?hg (N := 1) ?hd (cs := #[.int .i64 a0_0, .int .i64 a0_1, .int .u8 a0_2, .int .u8 a0_3, .int .u8 a0_4, .int .u8 a0_5, .int .u8 a0_6, .int .u8 a0_7, .int .u8 a0_8, .int .u8 a0_9, .int .u8 a0_10, .int .u8 a0_11, .int .u8 a0_12, .int .u8 a0_13, .int .u8 a0_14, .int .u8 a0_15, .int .u8 a0_16, .int .u8 a0_17]) (t := 44) ?hr ?_; (case hd => rfl); (case hg => rfl); (case hr => first | (go_simp; done) | (go_simp; rfl)); intro gb120 hg w7 hbox hb; have n0_ := am_ (below_step belowNow hb); have n1_ := am_ (hbox); have n2_ := am_ ((by rw [hg]; exact (below_size belowNow) : w.heap.size ≤ gb120)); have n3_ := n2_; clear HB; have HB := n0_; have BK120 := n1_; have GW120 := n2_; have GE120 := n3_; clear n0_ n1_ n2_ n3_; clear hb hbox hg; have hcz8_0 := cz2_ BK120.out 0 rfl; have hcz8_1 := cz2_ BK120.out 1 rfl; have hcz8_2 := cz2_ BK120.out 2 rfl; have hcz8_3 := cz2_ BK120.out 3 rfl; have hcz8_4 := cz2_ BK120.out 4 rfl; have hcz8_5 := cz2_ BK120.out 5 rfl; have hcz8_6 := cz2_ BK120.out 6 rfl; have hcz8_7 := cz2_ BK120.out 7 rfl; have hcz8_8 := cz2_ BK120.out 8 rfl; have hcz8_9 := cz2_ BK120.out 9 rfl; have hcz8_10 := cz2_ BK120.out 10 rfl; have hcz8_11 := cz2_ BK120.out 11 rfl; have hcz8_12 := cz2_ BK120.out 12 rfl; have hcz8_13 := cz2_ BK120.out 13 rfl; have hcz8_14 := cz2_ BK120.out 14 rfl; have hcz8_15 := cz2_ BK120.out 15 rfl; have hcz8_16 := cz2_ BK120.out 16 rfl; have hcz8_17 := cz2_ BK120.out 17 rfl; have hfz8_0 := blk_frozen BK120.out 0; have hfz8_1 := blk_frozen BK120.out 1; have hfz8_2 := blk_frozen BK120.out 2; have hfz8_3 := blk_frozen BK120.out 3; have hfz8_4 := blk_frozen BK120.out 4; have hfz8_5 := blk_frozen BK120.out 5; have hfz8_6 := blk_frozen BK120.out 6; have hfz8_7 := blk_frozen BK120.out 7; have hfz8_8 := blk_frozen BK120.out 8; have hfz8_9 := blk_frozen BK120.out 9; have hfz8_10 := blk_frozen BK120.out 10; have hfz8_11 := blk_frozen BK120.out 11; have hfz8_12 := blk_frozen BK120.out 12; have hfz8_13 := blk_frozen BK120.out 13; have hfz8_14 := blk_frozen BK120.out 14; have hfz8_15 := blk_frozen BK120.out 15; have hfz8_16 := blk_frozen BK120.out 16; have hfz8_17 := blk_frozen BK120.out 17) | ((with_reducible refine gate_callee (f := 49) rfl ?_); refine goesL_ (some 5) rfl rfl Try.func49 (by kernel_rfl) rfl #[.int .i64 a0_0] rfl (by (try simp only [List.map_toArray, List.map_cons, List.map_nil]); first | done | rfl | (simp only [List.length_drop, List.length_take]; rfl)) ?_; (with_reducible refine (spec_l4Tick.calls a0_0 false _ A2.out).mono ?_); rintro e w' ⟨rfl, ⟨nd, rfl⟩⟩; refine ⟨_, rfl, ?_⟩))
  go_ret
  exact ⟨by first | rfl | (simp [errW_none, errW_some] <;> rfl) | (simp [*, errW_none, errW_some] <;> rfl), belowNow⟩

 subst c3
 have H1 : ((spec_l12Seq.f a0_1).bind fun t122 => (some t122)) = some r := by rw [if_pos rfl] at H; exact H
 clear H; have H := H1; clear H1; replace H := Option.bind_eq_some_iff.mp H; obtain ⟨t122, A40, H⟩ := H
 replace H : (some t122) = some r := H
 have A4 := am_ A40; clear A40; obtain rfl := Option.some.inj H
 go_enter Try.func51, Try.ntmps51
 go_wp2_with (first | ((with_reducible refine gate_dst (N := 1) rfl ?_); refine box_event ?hg (N := 1) ?hd (cs := #[.int .i64 a0_0, .int .i64 a0_1, .int .u8 a0_2, .int .u8 a0_3, .int .u8 a0_4, .int .u8 a0_5, .int .u8 a0_6, .int .u8 a0_7, .int .u8 a0_8, .int .u8 a0_9, .int .u8 a0_10, .int .u8 a0_11, .int .u8 a0_12, .int .u8 a0_13, .int .u8 a0_14, .int .u8 a0_15, .int .u8 a0_16, .int .u8 a0_17]) (t := 44) ?hr ?_; (case hd => rfl); (case hg => rfl); (case hr => first | (go_simp; done) | (go_simp; rfl)); intro gb120 hg w5 hbox hb; have n0_ := am_ (below_step belowNow hb); have n1_ := am_ (hbox); have n2_ := am_ ((by rw [hg]; exact (below_size belowNow) : w.heap.size ≤ gb120)); have n3_ := n2_; clear HB; have HB := n0_; have BK120 := n1_; have GW120 := n2_; have GE120 := n3_; clear n0_ n1_ n2_ n3_; clear hb hbox hg; have hcz6_0 := cz2_ BK120.out 0 rfl; have hcz6_1 := cz2_ BK120.out 1 rfl; have hcz6_2 := cz2_ BK120.out 2 rfl; have hcz6_3 := cz2_ BK120.out 3 rfl; have hcz6_4 := cz2_ BK120.out 4 rfl; have hcz6_5 := cz2_ BK120.out 5 rfl; have hcz6_6 := cz2_ BK120.out 6 rfl; have hcz6_7 := cz2_ BK120.out 7 rfl; have hcz6_8 := cz2_ BK120.out 8 rfl; have hcz6_9 := cz2_ BK120.out 9 rfl; have hcz6_10 := cz2_ BK120.out 10 rfl; have hcz6_11 := cz2_ BK120.out 11 rfl; have hcz6_12 := cz2_ BK120.out 12 rfl; have hcz6_13 := cz2_ BK120.out 13 rfl; have hcz6_14 := cz2_ BK120.out 14 rfl; have hcz6_15 := cz2_ BK120.out 15 rfl; have hcz6_16 := cz2_ BK120.out 16 rfl; have hcz6_17 := cz2_ BK120.out 17 rfl; have hfz6_0 := blk_frozen BK120.out 0; have hfz6_1 := blk_frozen BK120.out 1; have hfz6_2 := blk_frozen BK120.out 2; have hfz6_3 := blk_frozen BK120.out 3; have hfz6_4 := blk_frozen BK120.out 4; have hfz6_5 := blk_frozen BK120.out 5; have hfz6_6 := blk_frozen BK120.out 6; have hfz6_7 := blk_frozen BK120.out 7; have hfz6_8 := blk_frozen BK120.out 8; have hfz6_9 := blk_frozen BK120.out 9; have hfz6_10 := blk_frozen BK120.out 10; have hfz6_11 := blk_frozen BK120.out 11; have hfz6_12 := blk_frozen BK120.out 12; have hfz6_13 := blk_frozen BK120.out 13; have hfz6_14 := blk_frozen BK120.out 14; have hfz6_15 := blk_frozen BK120.out 15; have hfz6_16 := blk_frozen BK120.out 16; have hfz6_17 := blk_frozen BK120.out 17) | ((with_reducible refine gate_callee (f := 49) rfl ?_); refine goesL_ (some 5) rfl rfl Try.func49 (by kernel_rfl) rfl #[.int .i64 a0_0] rfl (by (try simp only [List.map_toArray, List.map_cons, List.map_nil]); first | done | rfl | (simp only [List.length_drop, List.length_take]; rfl)) ?_; (with_reducible refine (spec_l4Tick.calls a0_0 true _ A2.out).mono ?_); rintro e w' ⟨rfl, ⟨nd, rfl⟩⟩; refine ⟨_, rfl, ?_⟩) | (go_at_call 47; (with_reducible refine (spec_l12Seq.calls a0_1 t122 _ A4.out).mono ?_); rintro e w' ⟨rfl, ⟨nd, rfl⟩⟩))
 go_ret
 exact ⟨by first | rfl | (simp [errW_none, errW_some] <;> rfl) | (simp [*, errW_none, errW_some] <;> rfl), belowNow⟩
end Go.Proofs.Ytbgdmbjipladoaa.PFnExactPlay
