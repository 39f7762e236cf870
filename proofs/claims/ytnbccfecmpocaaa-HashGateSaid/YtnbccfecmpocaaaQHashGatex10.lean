-- Made by wip/myprint.sh (a patched print): a text of this session's own.
import Derived.Test.YtnbccfecmpocaaaQHashGatex0
import Derived.Test.YtnbccfecmpocaaaQHashGatex3
import Derived.Test.YtnbccfecmpocaaaQHashGatex4
import Derived.Test.YtnbccfecmpocaaaQHashGatex6
import Derived.Test.YtnbccfecmpocaaaQHashGatex7
import Derived.Test.YtnbccfecmpocaaaQHashGatex9
namespace Go.Proofs.Ytnbccfecmpocaaa.QHashGate
open Go.RowKit Go.Proofs.YtnbccfecmpocaaaW.PrintWords Go.Proofs.YtnbccfecmpocaaaW.PrintLast Go.Proofs.YtnbccfecmpocaaaW.PrintMore
attribute [local go_sem] max2_int min2_int max_two min_two max_three min_three max_four min_four   -- for this text's walks alone
set_option linter.unusedVariables false
set_option linter.unusedSimpArgs false

/-! ### spiritlevellaw26_HashGate: function 4 -/
mutual
def spiritlevellaw26_HashGate.j0 : Nat → Int → Int → List Bool → List Bool → Bool → Bool → Int → List (S86) → List (S67) → List Int → List Int → Option (Bool)
  | 0, _, _, _, _, _, _, _, _, _, _, _ => none
  | k + 1, x1, x2, x3, x4, x11, x41, x187000, x187001, x187002, x187003, x187004 => if x41 = true then (some x11) else ((hash_Gate.f x187000 x187001 x187002 x187003 x187004 x1 x2).bind fun bt190 => (if bt190.2.2.2.2.2.2 = 0 then ((hash_Gate.f bt190.1 bt190.2.1 bt190.2.2.1 bt190.2.2.2.1 bt190.2.2.2.2.1 x2 x1).bind fun bt206 => ((values_All.f x187000 x187001 x187002 x187003 x187004 x3 x4).bind fun bt222 => ((values_All.f bt190.1 bt190.2.1 bt190.2.2.1 bt190.2.2.2.1 bt190.2.2.2.2.1 x3 x4).bind fun bt226 => (if bt206.2.2.2.2.2.2 = 0 then (if bt206.2.2.2.2.2.1 = bt190.2.2.2.2.2.1 then ((spiritlevelref02_Same.f k bt190.1 bt190.2.1 bt190.2.2.1 bt190.2.2.2.1 bt190.2.2.2.2.1 bt206.1 bt206.2.1 bt206.2.2.1 bt206.2.2.2.1 bt206.2.2.2.2.1).bind fun t230 => (if t230 = true then (if bt222.2 = 0 then (if bt226.2 = 0 then (if (bt226.1.length : Int) < (bt222.1.length : Int) then (spiritlevellaw26_HashGate.j1 k x1 x2 x11 bt190.2.2.2.2.2.1 bt222.1 bt226.1 true) else (if (bt226.1.length : Int) > (wrap64 ((bt222.1.length : Int) + 1)) then (spiritlevellaw26_HashGate.j1 k x1 x2 x11 bt190.2.2.2.2.2.1 bt222.1 bt226.1 true) else (if 0 ≤ (bt222.1.length : Int) then (if (bt222.1.length : Int) ≤ (bt226.1.length : Int) then ((spiritlevelref04_Same.f k (bt226.1.take ((bt222.1.length : Int) : Int).toNat) bt222.1).bind fun t235 => (spiritlevellaw26_HashGate.j1 k x1 x2 x11 bt190.2.2.2.2.2.1 bt222.1 bt226.1 (!t235))) else (none)) else (none)))) else (spiritlevellaw26_HashGate.j1 k x1 x2 x11 bt190.2.2.2.2.2.1 bt222.1 bt226.1 true)) else (spiritlevellaw26_HashGate.j1 k x1 x2 x11 bt190.2.2.2.2.2.1 bt222.1 bt226.1 true)) else (spiritlevellaw26_HashGate.j1 k x1 x2 x11 bt190.2.2.2.2.2.1 bt222.1 bt226.1 true))) else (spiritlevellaw26_HashGate.j1 k x1 x2 x11 bt190.2.2.2.2.2.1 bt222.1 bt226.1 true)) else (spiritlevellaw26_HashGate.j1 k x1 x2 x11 bt190.2.2.2.2.2.1 bt222.1 bt226.1 true))))) else (some x11)))
def spiritlevellaw26_HashGate.j1 : Nat → Int → Int → Bool → Int → List Bool → List Bool → Bool → Option (Bool)
  | 0, _, _, _, _, _, _, _ => none
  | k + 1, x1, x2, x11, x13, x18, x20, x120 => if x120 = true then (some false) else ((values_Of.f x18 x1).bind fun bt236 => ((values_Of.f x18 x2).bind fun bt238 => ((values_Of.f x20 x13).bind fun bt240 => (if x11 = true then (if bt236.2 = 0 then (if bt238.2 = 0 then (if bt240.2 = 0 then (if bt236.1 = true then (some (bt240.1 == bt238.1)) else (some (bt240.1 == false))) else (some false)) else (some false)) else (some false)) else (some false)))))
end
def spiritlevellaw26_HashGate.f (k : Nat) (a0_0 : Int) (l0_1 : List (S86)) (l0_2 : List (S67)) (l0_3 : List Int) (l0_4 : List Int) (a1 : Int) (a2 : Int) (l3 : List Bool) (l4 : List Bool) : Option (Bool) := (spiritlevellaw26_alive.f).bind fun t187 => ((spiritlevelref02_Great.f a0_0 l0_1 l0_2 l0_3 l0_4).bind fun t188 => (if t188 = true then (spiritlevellaw26_HashGate.j0 k a1 a2 l3 l4 t187 true a0_0 l0_1 l0_2 l0_3 l0_4) else ((spiritlevelref04_Asked.f k a0_0 l0_1 l0_2 l0_3 l0_4 l3 l4).bind fun t189 => (if t189 = 0 then (spiritlevellaw26_HashGate.j0 k a1 a2 l3 l4 t187 (!t187) a0_0 l0_1 l0_2 l0_3 l0_4) else (spiritlevellaw26_HashGate.j0 k a1 a2 l3 l4 t187 true a0_0 l0_1 l0_2 l0_3 l0_4)))))
theorem spiritlevellaw26_HashGate.mono_l : ∀ k, (∀ y0 y1 y2 y3 y4 y5 y6 y7 y8 y9 y10, LeO (spiritlevellaw26_HashGate.j0 k y0 y1 y2 y3 y4 y5 y6 y7 y8 y9 y10) (spiritlevellaw26_HashGate.j0 (k + 1) y0 y1 y2 y3 y4 y5 y6 y7 y8 y9 y10)) ∧ (∀ y0 y1 y2 y3 y4 y5 y6, LeO (spiritlevellaw26_HashGate.j1 k y0 y1 y2 y3 y4 y5 y6) (spiritlevellaw26_HashGate.j1 (k + 1) y0 y1 y2 y3 y4 y5 y6))
  | 0 => ⟨fun _ _ _ _ _ _ _ _ _ _ _ r h => by simp [spiritlevellaw26_HashGate.j0] at h, fun _ _ _ _ _ _ _ r h => by simp [spiritlevellaw26_HashGate.j1] at h⟩
  | k + 1 => by
    obtain ⟨ih0, ih1⟩ := spiritlevellaw26_HashGate.mono_l k
    refine ⟨?_, ?_⟩
    · intro y0 y1 y2 y3 y4 y5 y6 y7 y8 y9 y10
      unfold spiritlevellaw26_HashGate.j0
      repeat' first
      | (with_reducible exact ih0 _ _ _ _ _ _ _ _ _ _ _)
      | (with_reducible exact ih1 _ _ _ _ _ _ _)
      | (with_reducible exact spiritlevelref02_Same.mono _ _ _ _ _ _ _ _ _ _ _)
      | (with_reducible exact spiritlevelref04_Asked.mono _ _ _ _ _ _ _ _)
      | (with_reducible exact spiritlevelref04_Same.mono _ _ _)
      | (with_reducible exact LeO.refl _)
      | (with_reducible exact LeO.none _)
      | (with_reducible refine LeO.ite ?_ ?_)
      | (with_reducible refine LeO.bind ?_ (fun _ => ?_))
      | exact ih0 _ _ _ _ _ _ _ _ _ _ _
      | exact ih1 _ _ _ _ _ _ _
      | exact spiritlevelref02_Same.mono _ _ _ _ _ _ _ _ _ _ _
      | exact spiritlevelref04_Asked.mono _ _ _ _ _ _ _ _
      | exact spiritlevelref04_Same.mono _ _ _
      | exact LeO.none _
      | refine LeO.ite ?_ ?_
      | refine LeO.bind ?_ (fun _ => ?_)
    · intro y0 y1 y2 y3 y4 y5 y6
      unfold spiritlevellaw26_HashGate.j1
      repeat' first
      | (with_reducible exact ih0 _ _ _ _ _ _ _ _ _ _ _)
      | (with_reducible exact ih1 _ _ _ _ _ _ _)
      | (with_reducible exact spiritlevelref02_Same.mono _ _ _ _ _ _ _ _ _ _ _)
      | (with_reducible exact spiritlevelref04_Asked.mono _ _ _ _ _ _ _ _)
      | (with_reducible exact spiritlevelref04_Same.mono _ _ _)
      | (with_reducible exact LeO.refl _)
      | (with_reducible exact LeO.none _)
      | (with_reducible refine LeO.ite ?_ ?_)
      | (with_reducible refine LeO.bind ?_ (fun _ => ?_))
      | exact ih0 _ _ _ _ _ _ _ _ _ _ _
      | exact ih1 _ _ _ _ _ _ _
      | exact spiritlevelref02_Same.mono _ _ _ _ _ _ _ _ _ _ _
      | exact spiritlevelref04_Asked.mono _ _ _ _ _ _ _ _
      | exact spiritlevelref04_Same.mono _ _ _
      | exact LeO.none _
      | refine LeO.ite ?_ ?_
      | refine LeO.bind ?_ (fun _ => ?_)
theorem spiritlevellaw26_HashGate.mono : ∀ a0 a1 a2 a3 a4 a5 a6 a7 a8 k, LeO (spiritlevellaw26_HashGate.f k a0 a1 a2 a3 a4 a5 a6 a7 a8) (spiritlevellaw26_HashGate.f (k + 1) a0 a1 a2 a3 a4 a5 a6 a7 a8) := by
  intro a0 a1 a2 a3 a4 a5 a6 a7 a8 k
  obtain ⟨ih0, ih1⟩ := spiritlevellaw26_HashGate.mono_l k
  unfold spiritlevellaw26_HashGate.f
  repeat' first
      | (with_reducible exact ih0 _ _ _ _ _ _ _ _ _ _ _)
      | (with_reducible exact ih1 _ _ _ _ _ _ _)
      | (with_reducible exact spiritlevelref02_Same.mono _ _ _ _ _ _ _ _ _ _ _)
      | (with_reducible exact spiritlevelref04_Asked.mono _ _ _ _ _ _ _ _)
      | (with_reducible exact spiritlevelref04_Same.mono _ _ _)
      | (with_reducible exact LeO.refl _)
      | (with_reducible exact LeO.none _)
      | (with_reducible refine LeO.ite ?_ ?_)
      | (with_reducible refine LeO.bind ?_ (fun _ => ?_))
      | exact ih0 _ _ _ _ _ _ _ _ _ _ _
      | exact ih1 _ _ _ _ _ _ _
      | exact spiritlevelref02_Same.mono _ _ _ _ _ _ _ _ _ _ _
      | exact spiritlevelref04_Asked.mono _ _ _ _ _ _ _ _
      | exact spiritlevelref04_Same.mono _ _ _
      | exact LeO.none _
      | refine LeO.ite ?_ ?_
      | refine LeO.bind ?_ (fun _ => ?_)
set_option maxHeartbeats 8000000 in
set_option maxRecDepth 100000 in
theorem spiritlevellaw26_HashGate.calls (k : Nat) (a0_0 : Int) (A0_1 : Option Addr) (c0_1 : Nat) (l0_1 : List (S86)) (A0_2 : Option Addr) (c0_2 : Nat) (l0_2 : List (S67)) (A0_3 : Option Addr) (c0_3 : Nat) (l0_3 : List Int) (A0_4 : Option Addr) (c0_4 : Nat) (l0_4 : List Int) (a1 : Int) (a2 : Int) (A3 : Option Addr) (c3 : Nat) (l3 : List Bool) (A4 : Option Addr) (c4 : Nat) (l4 : List Bool) (r : Bool) (w : World) (hr0_1 : Kd.C k86 w A0_1 l0_1.length l0_1) (hc0_1 : l0_1.length ≤ c0_1) (hr0_2 : Kd.C k67 w A0_2 l0_2.length l0_2) (hc0_2 : l0_2.length ≤ c0_2) (hr0_3 : Kd.C (Kd.int .i64) w A0_3 l0_3.length l0_3) (hc0_3 : l0_3.length ≤ c0_3) (hr0_4 : Kd.C (Kd.int .i64) w A0_4 l0_4.length l0_4) (hc0_4 : l0_4.length ≤ c0_4) (hr3 : Kd.C Kd.bool w A3 l3.length l3) (hc3 : l3.length ≤ c3) (hr4 : Kd.C Kd.bool w A4 l4.length l4) (hc4 : l4.length ≤ c4) (ht_ : r = true) (h : spiritlevellaw26_HashGate.f k a0_0 l0_1 l0_2 l0_3 l0_4 a1 a2 l3 l4 = some r) :
    Calls Try.prog 4 #[.agg #[.int .i64 a0_0, .slice A0_1 l0_1.length c0_1, .slice A0_2 l0_2.length c0_2, .slice A0_3 l0_3.length c0_3, .slice A0_4 l0_4.length c0_4], .int .i64 a1, .int .i64 a2, .slice A3 l3.length c3, .slice A4 l4.length c4] w fun e w' => e = .returned (.bool r) ∧ Below w.heap.size w w' := by
  have HTR_ := Aside0.mk ht_
  clear ht_
  have hu26 := Try.underlying26
  have HR0_1 := Aside0.mk hr0_1
  have HC0_1 := Aside0.mk hc0_1
  clear hr0_1 hc0_1
  have HR0_2 := Aside0.mk hr0_2
  have HC0_2 := Aside0.mk hc0_2
  clear hr0_2 hc0_2
  have HR0_3 := Aside0.mk hr0_3
  have HC0_3 := Aside0.mk hc0_3
  clear hr0_3 hc0_3
  have HR0_4 := Aside0.mk hr0_4
  have HC0_4 := Aside0.mk hc0_4
  clear hr0_4 hc0_4
  have HR3 := Aside0.mk hr3
  have HC3 := Aside0.mk hc3
  clear hr3 hc3
  have HR4 := Aside0.mk hr4
  have HC4 := Aside0.mk hc4
  clear hr4 hc4
  have HB := Aside0.mk (Below.refl w.heap.size w)
  have H : ((spiritlevellaw26_alive.f).bind fun t187 => ((spiritlevelref02_Great.f a0_0 l0_1 l0_2 l0_3 l0_4).bind fun t188 => (if t188 = true then (spiritlevellaw26_HashGate.j0 k a1 a2 l3 l4 t187 true a0_0 l0_1 l0_2 l0_3 l0_4) else ((spiritlevelref04_Asked.f k a0_0 l0_1 l0_2 l0_3 l0_4 l3 l4).bind fun t189 => (if t189 = 0 then (spiritlevellaw26_HashGate.j0 k a1 a2 l3 l4 t187 (!t187) a0_0 l0_1 l0_2 l0_3 l0_4) else (spiritlevellaw26_HashGate.j0 k a1 a2 l3 l4 t187 true a0_0 l0_1 l0_2 l0_3 l0_4)))))) = some r := h
  clear h
  replace H := Option.bind_eq_some_iff.mp H
  obtain ⟨t187, A60, H⟩ := H
  replace H : ((spiritlevelref02_Great.f a0_0 l0_1 l0_2 l0_3 l0_4).bind fun t188 => (if t188 = true then (spiritlevellaw26_HashGate.j0 k a1 a2 l3 l4 t187 true a0_0 l0_1 l0_2 l0_3 l0_4) else ((spiritlevelref04_Asked.f k a0_0 l0_1 l0_2 l0_3 l0_4 l3 l4).bind fun t189 => (if t189 = 0 then (spiritlevellaw26_HashGate.j0 k a1 a2 l3 l4 t187 (!t187) a0_0 l0_1 l0_2 l0_3 l0_4) else (spiritlevellaw26_HashGate.j0 k a1 a2 l3 l4 t187 true a0_0 l0_1 l0_2 l0_3 l0_4))))) = some r := H
  have A6 := Aside0.mk A60
  clear A60
  have HC7 := Aside0.mk H
  clear H
  go_enter Try.func4, Try.ntmps4
  go_upto_region 2 with (first | ((with_reducible refine gate_dst (N := 5) rfl ?_); (try (refine gate_guard (by rfl) ?_; dsimp only)); refine box_event ?hg (N := 5) ?hd (cs := #[.int .i64 a0_0, .slice A0_1 l0_1.length c0_1, .slice A0_2 l0_2.length c0_2, .slice A0_3 l0_3.length c0_3, .slice A0_4 l0_4.length c0_4]) (t := 26) ?hr ?_; (case hd => rfl); (case hg => rfl); (case hr => first | (go_simp; done) | (go_simp; rfl)); intro gb186 hg w8 hbox hb; have n0_ := Aside0.mk (below_step (by repeat (first | (with_reducible first | exact HB.out | apply below_alloc | apply pw_below_drewN | apply below_drew1) | exact HB.out)) hb); have n1_ := Aside0.mk (hbox); have n2_ := Aside0.mk ((by rw [hg]; exact (below_size (by repeat (first | (with_reducible first | exact HB.out | apply below_alloc | apply pw_below_drewN | apply below_drew1) | exact HB.out))) : w.heap.size ≤ gb186)); have n3_ := Aside0.mk ((by rw [hg]; exact (below_size (by repeat (first | (with_reducible first | exact HB.out | apply below_alloc | apply pw_below_drewN | apply below_drew1) | exact HB.out))) : w.heap.size ≤ gb186)); clear HB; have HB := n0_; have BK186 := n1_; have GW186 := n2_; have GE186 := n3_; clear n0_ n1_ n2_ n3_; clear hb hbox hg) | ((with_reducible refine gate_callee (f := 12) rfl ?_); refine goesL_ (some 28) rfl rfl Try.func12 (by kernel_rfl) rfl #[] rfl (by (try simp only [List.map_toArray, List.map_cons, List.map_nil]); first | done | rfl | (simp only [List.length_drop, List.length_take]; rfl)) ?_; (with_reducible refine (spiritlevellaw26_alive.calls  t187 _ A6.out).mono ?_); rintro e w9 ⟨rfl, hb⟩; refine ⟨_, rfl, ?_⟩; have n0_ := Aside0.mk (blk_below (g := gb186) (o := .cells #[.int .i64 a0_0, .slice A0_1 l0_1.length c0_1, .slice A0_2 l0_2.length c0_2, .slice A0_3 l0_3.length c0_3, .slice A0_4 l0_4.length c0_4] 26 (0, 0)) (by (with_reducible repeat (first | refine blk_drewN ?_ _ | refine blk_drew ?_ | refine blk_alloc ?_ _)); exact BK186.out) hb); have n1_ := Aside0.mk (below_step (by repeat (first | (with_reducible first | exact HB.out | apply below_alloc | apply pw_below_drewN | apply below_drew1 | refine below_set ?_ GE186.out) | exact HB.out)) hb); clear BK186; clear HB; have BK186 := n0_; have HB := n1_; clear n0_ n1_; (try clear hb); (try clear hb2); (try clear hk); (try clear hi)))
  (try simp only [Act.put, List.setIfInBounds_toArray, List.set_cons_zero, List.set_cons_succ])
  go_cut [41] (fun v41 wc => ∃ (kq : Nat) (x41_6 : Bool), v41 = .bool x41_6 ∧ Aside0 (spiritlevellaw26_HashGate.j0 kq a1 a2 l3 l4 t187 x41_6 a0_0 l0_1 l0_2 l0_3 l0_4 = some r) ∧ Aside0 (kq ≤ k) ∧ Aside0 (wc.heap[gb186]? = some (.cells #[.int .i64 a0_0, (.slice A0_1 l0_1.length c0_1), (.slice A0_2 l0_2.length c0_2), (.slice A0_3 l0_3.length c0_3), (.slice A0_4 l0_4.length c0_4)] 26 (0, 0))) ∧ Aside0 (Below w.heap.size w wc))
  case first =>
    have H := HC7.out
    clear HC7
    replace H := Option.bind_eq_some_iff.mp H
    obtain ⟨t188, A100, H⟩ := H
    replace H : (if t188 = true then (spiritlevellaw26_HashGate.j0 k a1 a2 l3 l4 t187 true a0_0 l0_1 l0_2 l0_3 l0_4) else ((spiritlevelref04_Asked.f k a0_0 l0_1 l0_2 l0_3 l0_4 l3 l4).bind fun t189 => (if t189 = 0 then (spiritlevellaw26_HashGate.j0 k a1 a2 l3 l4 t187 (!t187) a0_0 l0_1 l0_2 l0_3 l0_4) else (spiritlevellaw26_HashGate.j0 k a1 a2 l3 l4 t187 true a0_0 l0_1 l0_2 l0_3 l0_4)))) = some r := H
    have A10 := Aside0.mk A100
    clear A100
    by_cases c11 : t188 = true
    · subst c11
      have H1 : (spiritlevellaw26_HashGate.j0 k a1 a2 l3 l4 t187 true a0_0 l0_1 l0_2 l0_3 l0_4) = some r := by rw [if_pos rfl] at H; exact H
      clear H
      have H := H1
      clear H1
      have H' := Aside0.mk H
      clear H
      have hcz12_0 : w9.cell? ⟨gb186, 0, none⟩ = some (.int .i64 a0_0) := (blk_cell BK186.out 0).trans rfl
      have hcz12_1 : w9.cell? ⟨gb186, 1, none⟩ = some (.slice A0_1 l0_1.length c0_1) := (blk_cell BK186.out 1).trans rfl
      have hcz12_2 : w9.cell? ⟨gb186, 2, none⟩ = some (.slice A0_2 l0_2.length c0_2) := (blk_cell BK186.out 2).trans rfl
      have hcz12_3 : w9.cell? ⟨gb186, 3, none⟩ = some (.slice A0_3 l0_3.length c0_3) := (blk_cell BK186.out 3).trans rfl
      have hcz12_4 : w9.cell? ⟨gb186, 4, none⟩ = some (.slice A0_4 l0_4.length c0_4) := (blk_cell BK186.out 4).trans rfl
      have hfz12_0 := blk_frozen BK186.out 0
      have hfz12_1 := blk_frozen BK186.out 1
      have hfz12_2 := blk_frozen BK186.out 2
      have hfz12_3 := blk_frozen BK186.out 3
      have hfz12_4 := blk_frozen BK186.out 4
      go_wp2_with (first | ((with_reducible refine gate_callee (f := 8) rfl ?_); refine goesL_ (some 30) rfl rfl Try.func8 (by kernel_rfl) rfl #[.agg #[.int .i64 a0_0, .slice A0_1 l0_1.length c0_1, .slice A0_2 l0_2.length c0_2, .slice A0_3 l0_3.length c0_3, .slice A0_4 l0_4.length c0_4]] rfl (by (try simp only [List.map_toArray, List.map_cons, List.map_nil]); first | done | rfl | (simp only [List.length_drop, List.length_take]; rfl)) ?_; (with_reducible refine (spiritlevelref02_Great.calls a0_0 _ _ l0_1 _ _ l0_2 _ _ l0_3 _ _ l0_4 true _ ?side1 ?side2 ?side3 ?side4 ?side5 ?side6 ?side7 ?side8 A10.out).mono ?_); (case side1 => repeat (first | exact (Kd.C_below HR0_1.out HB.out) | (with_reducible refine Kd.C_alloc ?_ _) | (with_reducible refine Kd.C_drewN ?_ _) | (with_reducible refine Kd.C_drew ?_))); (case side2 => exact HC0_1.out); (case side3 => repeat (first | exact (Kd.C_below HR0_2.out HB.out) | (with_reducible refine Kd.C_alloc ?_ _) | (with_reducible refine Kd.C_drewN ?_ _) | (with_reducible refine Kd.C_drew ?_))); (case side4 => exact HC0_2.out); (case side5 => repeat (first | exact (Kd.C_below HR0_3.out HB.out) | (with_reducible refine Kd.C_alloc ?_ _) | (with_reducible refine Kd.C_drewN ?_ _) | (with_reducible refine Kd.C_drew ?_))); (case side6 => exact HC0_3.out); (case side7 => repeat (first | exact (Kd.C_below HR0_4.out HB.out) | (with_reducible refine Kd.C_alloc ?_ _) | (with_reducible refine Kd.C_drewN ?_ _) | (with_reducible refine Kd.C_drew ?_))); (case side8 => exact HC0_4.out); rintro e w13 ⟨rfl, hb⟩; refine ⟨_, rfl, ?_⟩; have n0_ := Aside0.mk (blk_below (g := gb186) (o := .cells #[.int .i64 a0_0, .slice A0_1 l0_1.length c0_1, .slice A0_2 l0_2.length c0_2, .slice A0_3 l0_3.length c0_3, .slice A0_4 l0_4.length c0_4] 26 (0, 0)) (by (with_reducible repeat (first | refine blk_drewN ?_ _ | refine blk_drew ?_ | refine blk_alloc ?_ _)); exact BK186.out) hb); have n1_ := Aside0.mk (below_step (by repeat (first | (with_reducible first | exact HB.out | apply below_alloc | apply pw_below_drewN | apply below_drew1 | refine below_set ?_ GE186.out) | exact HB.out)) hb); clear BK186; clear HB; have BK186 := n0_; have HB := n1_; clear n0_ n1_; (try clear hb); (try clear hb2); (try clear hk); (try clear hi)))
      go_meet
      case rel => exact ⟨_, (true), (by first | rfl | (simp; done) | (simp [*]; done)), H', ⟨by first | omega | exact Nat.le_refl _⟩, ⟨by (with_reducible repeat (first | refine blk_drewN ?_ _ | refine blk_drew ?_ | refine blk_alloc ?_ _)); exact BK186.out⟩, ⟨by repeat (first | (with_reducible first | exact HB.out | apply below_alloc | apply pw_below_drewN | apply below_drew1 | refine below_set ?_ GE186.out) | exact HB.out)⟩⟩
    · replace c11 := Bool.eq_false_iff.mpr c11
      subst c11
      have H1 : ((spiritlevelref04_Asked.f k a0_0 l0_1 l0_2 l0_3 l0_4 l3 l4).bind fun t189 => (if t189 = 0 then (spiritlevellaw26_HashGate.j0 k a1 a2 l3 l4 t187 (!t187) a0_0 l0_1 l0_2 l0_3 l0_4) else (spiritlevellaw26_HashGate.j0 k a1 a2 l3 l4 t187 true a0_0 l0_1 l0_2 l0_3 l0_4))) = some r := by rw [if_neg (show ¬ (false = true) by decide)] at H; exact H
      clear H
      have H := H1
      clear H1
      replace H := Option.bind_eq_some_iff.mp H
      obtain ⟨t189, A140, H⟩ := H
      replace H : (if t189 = 0 then (spiritlevellaw26_HashGate.j0 k a1 a2 l3 l4 t187 (!t187) a0_0 l0_1 l0_2 l0_3 l0_4) else (spiritlevellaw26_HashGate.j0 k a1 a2 l3 l4 t187 true a0_0 l0_1 l0_2 l0_3 l0_4)) = some r := H
      have A14 := Aside0.mk A140
      clear A140
      by_cases c15 : t189 = 0
      · rw [if_pos c15] at H
        have c15b0 : (t189 == 0) = true := beq_iff_eq.mpr c15
        have c15b1 : (t189 != 0) = false := bne_eq_false_iff_eq.mpr c15
        clear c15
        (first | rw [c15b0] | (simp only [i64_w, i32_w]; rw [c15b0]) | skip)
        have H' := Aside0.mk H
        clear H
        have hcz16_0 : w9.cell? ⟨gb186, 0, none⟩ = some (.int .i64 a0_0) := (blk_cell BK186.out 0).trans rfl
        have hcz16_1 : w9.cell? ⟨gb186, 1, none⟩ = some (.slice A0_1 l0_1.length c0_1) := (blk_cell BK186.out 1).trans rfl
        have hcz16_2 : w9.cell? ⟨gb186, 2, none⟩ = some (.slice A0_2 l0_2.length c0_2) := (blk_cell BK186.out 2).trans rfl
        have hcz16_3 : w9.cell? ⟨gb186, 3, none⟩ = some (.slice A0_3 l0_3.length c0_3) := (blk_cell BK186.out 3).trans rfl
        have hcz16_4 : w9.cell? ⟨gb186, 4, none⟩ = some (.slice A0_4 l0_4.length c0_4) := (blk_cell BK186.out 4).trans rfl
        have hfz16_0 := blk_frozen BK186.out 0
        have hfz16_1 := blk_frozen BK186.out 1
        have hfz16_2 := blk_frozen BK186.out 2
        have hfz16_3 := blk_frozen BK186.out 3
        have hfz16_4 := blk_frozen BK186.out 4
        go_wp2_with (first | ((with_reducible refine gate_callee (f := 8) rfl ?_); refine goesL_ (some 30) rfl rfl Try.func8 (by kernel_rfl) rfl #[.agg #[.int .i64 a0_0, .slice A0_1 l0_1.length c0_1, .slice A0_2 l0_2.length c0_2, .slice A0_3 l0_3.length c0_3, .slice A0_4 l0_4.length c0_4]] rfl (by (try simp only [List.map_toArray, List.map_cons, List.map_nil]); first | done | rfl | (simp only [List.length_drop, List.length_take]; rfl)) ?_; (with_reducible refine (spiritlevelref02_Great.calls a0_0 _ _ l0_1 _ _ l0_2 _ _ l0_3 _ _ l0_4 false _ ?side1 ?side2 ?side3 ?side4 ?side5 ?side6 ?side7 ?side8 A10.out).mono ?_); (case side1 => repeat (first | exact (Kd.C_below HR0_1.out HB.out) | (with_reducible refine Kd.C_alloc ?_ _) | (with_reducible refine Kd.C_drewN ?_ _) | (with_reducible refine Kd.C_drew ?_))); (case side2 => exact HC0_1.out); (case side3 => repeat (first | exact (Kd.C_below HR0_2.out HB.out) | (with_reducible refine Kd.C_alloc ?_ _) | (with_reducible refine Kd.C_drewN ?_ _) | (with_reducible refine Kd.C_drew ?_))); (case side4 => exact HC0_2.out); (case side5 => repeat (first | exact (Kd.C_below HR0_3.out HB.out) | (with_reducible refine Kd.C_alloc ?_ _) | (with_reducible refine Kd.C_drewN ?_ _) | (with_reducible refine Kd.C_drew ?_))); (case side6 => exact HC0_3.out); (case side7 => repeat (first | exact (Kd.C_below HR0_4.out HB.out) | (with_reducible refine Kd.C_alloc ?_ _) | (with_reducible refine Kd.C_drewN ?_ _) | (with_reducible refine Kd.C_drew ?_))); (case side8 => exact HC0_4.out); rintro e w17 ⟨rfl, hb⟩; refine ⟨_, rfl, ?_⟩; have n0_ := Aside0.mk (blk_below (g := gb186) (o := .cells #[.int .i64 a0_0, .slice A0_1 l0_1.length c0_1, .slice A0_2 l0_2.length c0_2, .slice A0_3 l0_3.length c0_3, .slice A0_4 l0_4.length c0_4] 26 (0, 0)) (by (with_reducible repeat (first | refine blk_drewN ?_ _ | refine blk_drew ?_ | refine blk_alloc ?_ _)); exact BK186.out) hb); have n1_ := Aside0.mk (below_step (by repeat (first | (with_reducible first | exact HB.out | apply below_alloc | apply pw_below_drewN | apply below_drew1 | refine below_set ?_ GE186.out) | exact HB.out)) hb); clear BK186; clear HB; have BK186 := n0_; have HB := n1_; clear n0_ n1_; (try clear hb); (try clear hb2); (try clear hk); (try clear hi); have hcz18_0 : w17.cell? ⟨gb186, 0, none⟩ = some (.int .i64 a0_0) := (blk_cell BK186.out 0).trans rfl; have hcz18_1 : w17.cell? ⟨gb186, 1, none⟩ = some (.slice A0_1 l0_1.length c0_1) := (blk_cell BK186.out 1).trans rfl; have hcz18_2 : w17.cell? ⟨gb186, 2, none⟩ = some (.slice A0_2 l0_2.length c0_2) := (blk_cell BK186.out 2).trans rfl; have hcz18_3 : w17.cell? ⟨gb186, 3, none⟩ = some (.slice A0_3 l0_3.length c0_3) := (blk_cell BK186.out 3).trans rfl; have hcz18_4 : w17.cell? ⟨gb186, 4, none⟩ = some (.slice A0_4 l0_4.length c0_4) := (blk_cell BK186.out 4).trans rfl; have hfz18_0 := blk_frozen BK186.out 0; have hfz18_1 := blk_frozen BK186.out 1; have hfz18_2 := blk_frozen BK186.out 2; have hfz18_3 := blk_frozen BK186.out 3; have hfz18_4 := blk_frozen BK186.out 4) | (go_at_call 13; (with_reducible refine (spiritlevelref04_Asked.calls k a0_0 _ _ l0_1 _ _ l0_2 _ _ l0_3 _ _ l0_4 _ _ l3 _ _ l4 t189 _ ?side1 ?side2 ?side3 ?side4 ?side5 ?side6 ?side7 ?side8 ?side9 ?side10 ?side11 ?side12 A14.out).mono ?_); (case side1 => repeat (first | exact (Kd.C_below HR0_1.out HB.out) | (with_reducible refine Kd.C_alloc ?_ _) | (with_reducible refine Kd.C_drewN ?_ _) | (with_reducible refine Kd.C_drew ?_))); (case side2 => exact HC0_1.out); (case side3 => repeat (first | exact (Kd.C_below HR0_2.out HB.out) | (with_reducible refine Kd.C_alloc ?_ _) | (with_reducible refine Kd.C_drewN ?_ _) | (with_reducible refine Kd.C_drew ?_))); (case side4 => exact HC0_2.out); (case side5 => repeat (first | exact (Kd.C_below HR0_3.out HB.out) | (with_reducible refine Kd.C_alloc ?_ _) | (with_reducible refine Kd.C_drewN ?_ _) | (with_reducible refine Kd.C_drew ?_))); (case side6 => exact HC0_3.out); (case side7 => repeat (first | exact (Kd.C_below HR0_4.out HB.out) | (with_reducible refine Kd.C_alloc ?_ _) | (with_reducible refine Kd.C_drewN ?_ _) | (with_reducible refine Kd.C_drew ?_))); (case side8 => exact HC0_4.out); (case side9 => repeat (first | exact (Kd.C_below HR3.out HB.out) | (with_reducible refine Kd.C_alloc ?_ _) | (with_reducible refine Kd.C_drewN ?_ _) | (with_reducible refine Kd.C_drew ?_))); (case side10 => exact HC3.out); (case side11 => repeat (first | exact (Kd.C_below HR4.out HB.out) | (with_reducible refine Kd.C_alloc ?_ _) | (with_reducible refine Kd.C_drewN ?_ _) | (with_reducible refine Kd.C_drew ?_))); (case side12 => exact HC4.out); rintro e w19 ⟨rfl, hb⟩; have n0_ := Aside0.mk (blk_below (g := gb186) (o := .cells #[.int .i64 a0_0, .slice A0_1 l0_1.length c0_1, .slice A0_2 l0_2.length c0_2, .slice A0_3 l0_3.length c0_3, .slice A0_4 l0_4.length c0_4] 26 (0, 0)) (by (with_reducible repeat (first | refine blk_drewN ?_ _ | refine blk_drew ?_ | refine blk_alloc ?_ _)); exact BK186.out) hb); have n1_ := Aside0.mk (below_step (by repeat (first | (with_reducible first | exact HB.out | apply below_alloc | apply pw_below_drewN | apply below_drew1 | refine below_set ?_ GE186.out) | exact HB.out)) hb); clear BK186; clear HB; have BK186 := n0_; have HB := n1_; clear n0_ n1_; (try clear hb); (try clear hb2); (try clear hk); (try clear hi)))
        go_meet
        case rel => exact ⟨_, (!t187), (by first | rfl | (simp; done) | (simp [*]; done)), H', ⟨by first | omega | exact Nat.le_refl _⟩, ⟨by (with_reducible repeat (first | refine blk_drewN ?_ _ | refine blk_drew ?_ | refine blk_alloc ?_ _)); exact BK186.out⟩, ⟨by repeat (first | (with_reducible first | exact HB.out | apply below_alloc | apply pw_below_drewN | apply below_drew1 | refine below_set ?_ GE186.out) | exact HB.out)⟩⟩
      · rw [if_neg c15] at H
        have c15b0 : (t189 == 0) = false := beq_eq_false_iff_ne.mpr c15
        have c15b1 : (t189 != 0) = true := bne_iff_ne.mpr c15
        (first | rw [c15b0] | (simp only [i64_w, i32_w]; rw [c15b0]) | skip)
        have H' := Aside0.mk H
        clear H
        have hcz20_0 : w9.cell? ⟨gb186, 0, none⟩ = some (.int .i64 a0_0) := (blk_cell BK186.out 0).trans rfl
        have hcz20_1 : w9.cell? ⟨gb186, 1, none⟩ = some (.slice A0_1 l0_1.length c0_1) := (blk_cell BK186.out 1).trans rfl
        have hcz20_2 : w9.cell? ⟨gb186, 2, none⟩ = some (.slice A0_2 l0_2.length c0_2) := (blk_cell BK186.out 2).trans rfl
        have hcz20_3 : w9.cell? ⟨gb186, 3, none⟩ = some (.slice A0_3 l0_3.length c0_3) := (blk_cell BK186.out 3).trans rfl
        have hcz20_4 : w9.cell? ⟨gb186, 4, none⟩ = some (.slice A0_4 l0_4.length c0_4) := (blk_cell BK186.out 4).trans rfl
        have hfz20_0 := blk_frozen BK186.out 0
        have hfz20_1 := blk_frozen BK186.out 1
        have hfz20_2 := blk_frozen BK186.out 2
        have hfz20_3 := blk_frozen BK186.out 3
        have hfz20_4 := blk_frozen BK186.out 4
        go_wp2_with (first | ((with_reducible refine gate_callee (f := 8) rfl ?_); refine goesL_ (some 30) rfl rfl Try.func8 (by kernel_rfl) rfl #[.agg #[.int .i64 a0_0, .slice A0_1 l0_1.length c0_1, .slice A0_2 l0_2.length c0_2, .slice A0_3 l0_3.length c0_3, .slice A0_4 l0_4.length c0_4]] rfl (by (try simp only [List.map_toArray, List.map_cons, List.map_nil]); first | done | rfl | (simp only [List.length_drop, List.length_take]; rfl)) ?_; (with_reducible refine (spiritlevelref02_Great.calls a0_0 _ _ l0_1 _ _ l0_2 _ _ l0_3 _ _ l0_4 false _ ?side1 ?side2 ?side3 ?side4 ?side5 ?side6 ?side7 ?side8 A10.out).mono ?_); (case side1 => repeat (first | exact (Kd.C_below HR0_1.out HB.out) | (with_reducible refine Kd.C_alloc ?_ _) | (with_reducible refine Kd.C_drewN ?_ _) | (with_reducible refine Kd.C_drew ?_))); (case side2 => exact HC0_1.out); (case side3 => repeat (first | exact (Kd.C_below HR0_2.out HB.out) | (with_reducible refine Kd.C_alloc ?_ _) | (with_reducible refine Kd.C_drewN ?_ _) | (with_reducible refine Kd.C_drew ?_))); (case side4 => exact HC0_2.out); (case side5 => repeat (first | exact (Kd.C_below HR0_3.out HB.out) | (with_reducible refine Kd.C_alloc ?_ _) | (with_reducible refine Kd.C_drewN ?_ _) | (with_reducible refine Kd.C_drew ?_))); (case side6 => exact HC0_3.out); (case side7 => repeat (first | exact (Kd.C_below HR0_4.out HB.out) | (with_reducible refine Kd.C_alloc ?_ _) | (with_reducible refine Kd.C_drewN ?_ _) | (with_reducible refine Kd.C_drew ?_))); (case side8 => exact HC0_4.out); rintro e w21 ⟨rfl, hb⟩; refine ⟨_, rfl, ?_⟩; have n0_ := Aside0.mk (blk_below (g := gb186) (o := .cells #[.int .i64 a0_0, .slice A0_1 l0_1.length c0_1, .slice A0_2 l0_2.length c0_2, .slice A0_3 l0_3.length c0_3, .slice A0_4 l0_4.length c0_4] 26 (0, 0)) (by (with_reducible repeat (first | refine blk_drewN ?_ _ | refine blk_drew ?_ | refine blk_alloc ?_ _)); exact BK186.out) hb); have n1_ := Aside0.mk (below_step (by repeat (first | (with_reducible first | exact HB.out | apply below_alloc | apply pw_below_drewN | apply below_drew1 | refine below_set ?_ GE186.out) | exact HB.out)) hb); clear BK186; clear HB; have BK186 := n0_; have HB := n1_; clear n0_ n1_; (try clear hb); (try clear hb2); (try clear hk); (try clear hi); have hcz22_0 : w21.cell? ⟨gb186, 0, none⟩ = some (.int .i64 a0_0) := (blk_cell BK186.out 0).trans rfl; have hcz22_1 : w21.cell? ⟨gb186, 1, none⟩ = some (.slice A0_1 l0_1.length c0_1) := (blk_cell BK186.out 1).trans rfl; have hcz22_2 : w21.cell? ⟨gb186, 2, none⟩ = some (.slice A0_2 l0_2.length c0_2) := (blk_cell BK186.out 2).trans rfl; have hcz22_3 : w21.cell? ⟨gb186, 3, none⟩ = some (.slice A0_3 l0_3.length c0_3) := (blk_cell BK186.out 3).trans rfl; have hcz22_4 : w21.cell? ⟨gb186, 4, none⟩ = some (.slice A0_4 l0_4.length c0_4) := (blk_cell BK186.out 4).trans rfl; have hfz22_0 := blk_frozen BK186.out 0; have hfz22_1 := blk_frozen BK186.out 1; have hfz22_2 := blk_frozen BK186.out 2; have hfz22_3 := blk_frozen BK186.out 3; have hfz22_4 := blk_frozen BK186.out 4) | (go_at_call 13; (with_reducible refine (spiritlevelref04_Asked.calls k a0_0 _ _ l0_1 _ _ l0_2 _ _ l0_3 _ _ l0_4 _ _ l3 _ _ l4 t189 _ ?side1 ?side2 ?side3 ?side4 ?side5 ?side6 ?side7 ?side8 ?side9 ?side10 ?side11 ?side12 A14.out).mono ?_); (case side1 => repeat (first | exact (Kd.C_below HR0_1.out HB.out) | (with_reducible refine Kd.C_alloc ?_ _) | (with_reducible refine Kd.C_drewN ?_ _) | (with_reducible refine Kd.C_drew ?_))); (case side2 => exact HC0_1.out); (case side3 => repeat (first | exact (Kd.C_below HR0_2.out HB.out) | (with_reducible refine Kd.C_alloc ?_ _) | (with_reducible refine Kd.C_drewN ?_ _) | (with_reducible refine Kd.C_drew ?_))); (case side4 => exact HC0_2.out); (case side5 => repeat (first | exact (Kd.C_below HR0_3.out HB.out) | (with_reducible refine Kd.C_alloc ?_ _) | (with_reducible refine Kd.C_drewN ?_ _) | (with_reducible refine Kd.C_drew ?_))); (case side6 => exact HC0_3.out); (case side7 => repeat (first | exact (Kd.C_below HR0_4.out HB.out) | (with_reducible refine Kd.C_alloc ?_ _) | (with_reducible refine Kd.C_drewN ?_ _) | (with_reducible refine Kd.C_drew ?_))); (case side8 => exact HC0_4.out); (case side9 => repeat (first | exact (Kd.C_below HR3.out HB.out) | (with_reducible refine Kd.C_alloc ?_ _) | (with_reducible refine Kd.C_drewN ?_ _) | (with_reducible refine Kd.C_drew ?_))); (case side10 => exact HC3.out); (case side11 => repeat (first | exact (Kd.C_below HR4.out HB.out) | (with_reducible refine Kd.C_alloc ?_ _) | (with_reducible refine Kd.C_drewN ?_ _) | (with_reducible refine Kd.C_drew ?_))); (case side12 => exact HC4.out); rintro e w23 ⟨rfl, hb⟩; have n0_ := Aside0.mk (blk_below (g := gb186) (o := .cells #[.int .i64 a0_0, .slice A0_1 l0_1.length c0_1, .slice A0_2 l0_2.length c0_2, .slice A0_3 l0_3.length c0_3, .slice A0_4 l0_4.length c0_4] 26 (0, 0)) (by (with_reducible repeat (first | refine blk_drewN ?_ _ | refine blk_drew ?_ | refine blk_alloc ?_ _)); exact BK186.out) hb); have n1_ := Aside0.mk (below_step (by repeat (first | (with_reducible first | exact HB.out | apply below_alloc | apply pw_below_drewN | apply below_drew1 | refine below_set ?_ GE186.out) | exact HB.out)) hb); clear BK186; clear HB; have BK186 := n0_; have HB := n1_; clear n0_ n1_; (try clear hb); (try clear hb2); (try clear hk); (try clear hi)))
        go_meet
        case rel => exact ⟨_, (true), (by first | rfl | (simp; done) | (simp [*]; done)), H', ⟨by first | omega | exact Nat.le_refl _⟩, ⟨by (with_reducible repeat (first | refine blk_drewN ?_ _ | refine blk_drew ?_ | refine blk_alloc ?_ _)); exact BK186.out⟩, ⟨by repeat (first | (with_reducible first | exact HB.out | apply below_alloc | apply pw_below_drewN | apply below_drew1 | refine below_set ?_ GE186.out) | exact HB.out)⟩⟩
  case rest =>
    clear HC7
    try clear c1
    try clear p2
    try clear c3
    try clear c4
    try clear c8
    try clear c11
    try clear c12
    try clear c15
    try clear c15b0
    try clear c15b1
    try clear hcz12_0
    try clear hcz12_1
    try clear hcz12_2
    try clear hcz12_3
    try clear hcz12_4
    try clear hcz16_0
    try clear hcz16_1
    try clear hcz16_2
    try clear hcz16_3
    try clear hcz16_4
    try clear hcz18_0
    try clear hcz18_1
    try clear hcz18_2
    try clear hcz18_3
    try clear hcz18_4
    try clear hcz20_0
    try clear hcz20_1
    try clear hcz20_2
    try clear hcz20_3
    try clear hcz20_4
    try clear hcz22_0
    try clear hcz22_1
    try clear hcz22_2
    try clear hcz22_3
    try clear hcz22_4
    try clear hfz12_0
    try clear hfz12_1
    try clear hfz12_2
    try clear hfz12_3
    try clear hfz12_4
    try clear hfz16_0
    try clear hfz16_1
    try clear hfz16_2
    try clear hfz16_3
    try clear hfz16_4
    try clear hfz18_0
    try clear hfz18_1
    try clear hfz18_2
    try clear hfz18_3
    try clear hfz18_4
    try clear hfz20_0
    try clear hfz20_1
    try clear hfz20_2
    try clear hfz20_3
    try clear hfz20_4
    try clear hfz22_0
    try clear hfz22_1
    try clear hfz22_2
    try clear hfz22_3
    try clear hfz22_4
    obtain ⟨kq, x41_6, rfl, HA, HJ6, BK186, HB⟩ := hcut
    cases kq with
    | zero => exact absurd HA.out (by simp [spiritlevellaw26_HashGate.j0])
    | succ kj6 =>
      have H := HA.out
      clear HA
      simp only [spiritlevellaw26_HashGate.j0] at H
      by_cases c24 : x41_6 = true
      · subst c24
        have H1 : (some t187) = some r := by rw [if_pos rfl] at H; exact H
        clear H
        have H := H1
        clear H1
        obtain rfl := Option.some.inj H
        go_wp2
        go_ret
        exact ⟨by first | rfl | (simp [errW_none, errW_some] <;> rfl) | (simp [*, errW_none, errW_some] <;> rfl), by repeat (first | (with_reducible first | exact HB.out | apply below_alloc | apply pw_below_drewN | apply below_drew1 | refine below_set ?_ GE186.out) | exact HB.out)⟩
      · replace c24 := Bool.eq_false_iff.mpr c24
        subst c24
        have H1 : ((hash_Gate.f a0_0 l0_1 l0_2 l0_3 l0_4 a1 a2).bind fun bt190 => (if bt190.2.2.2.2.2.2 = 0 then ((hash_Gate.f bt190.1 bt190.2.1 bt190.2.2.1 bt190.2.2.2.1 bt190.2.2.2.2.1 a2 a1).bind fun bt206 => ((values_All.f a0_0 l0_1 l0_2 l0_3 l0_4 l3 l4).bind fun bt222 => ((values_All.f bt190.1 bt190.2.1 bt190.2.2.1 bt190.2.2.2.1 bt190.2.2.2.2.1 l3 l4).bind fun bt226 => (if bt206.2.2.2.2.2.2 = 0 then (if bt206.2.2.2.2.2.1 = bt190.2.2.2.2.2.1 then ((spiritlevelref02_Same.f kj6 bt190.1 bt190.2.1 bt190.2.2.1 bt190.2.2.2.1 bt190.2.2.2.2.1 bt206.1 bt206.2.1 bt206.2.2.1 bt206.2.2.2.1 bt206.2.2.2.2.1).bind fun t230 => (if t230 = true then (if bt222.2 = 0 then (if bt226.2 = 0 then (if (bt226.1.length : Int) < (bt222.1.length : Int) then (spiritlevellaw26_HashGate.j1 kj6 a1 a2 t187 bt190.2.2.2.2.2.1 bt222.1 bt226.1 true) else (if (bt226.1.length : Int) > (wrap64 ((bt222.1.length : Int) + 1)) then (spiritlevellaw26_HashGate.j1 kj6 a1 a2 t187 bt190.2.2.2.2.2.1 bt222.1 bt226.1 true) else (if 0 ≤ (bt222.1.length : Int) then (if (bt222.1.length : Int) ≤ (bt226.1.length : Int) then ((spiritlevelref04_Same.f kj6 (bt226.1.take ((bt222.1.length : Int) : Int).toNat) bt222.1).bind fun t235 => (spiritlevellaw26_HashGate.j1 kj6 a1 a2 t187 bt190.2.2.2.2.2.1 bt222.1 bt226.1 (!t235))) else (none)) else (none)))) else (spiritlevellaw26_HashGate.j1 kj6 a1 a2 t187 bt190.2.2.2.2.2.1 bt222.1 bt226.1 true)) else (spiritlevellaw26_HashGate.j1 kj6 a1 a2 t187 bt190.2.2.2.2.2.1 bt222.1 bt226.1 true)) else (spiritlevellaw26_HashGate.j1 kj6 a1 a2 t187 bt190.2.2.2.2.2.1 bt222.1 bt226.1 true))) else (spiritlevellaw26_HashGate.j1 kj6 a1 a2 t187 bt190.2.2.2.2.2.1 bt222.1 bt226.1 true)) else (spiritlevellaw26_HashGate.j1 kj6 a1 a2 t187 bt190.2.2.2.2.2.1 bt222.1 bt226.1 true))))) else (some t187))) = some r := by rw [if_neg (show ¬ (false = true) by decide)] at H; exact H
        clear H
        have H := H1
        clear H1
        replace H := Option.bind_eq_some_iff.mp H
        obtain ⟨⟨t190, t191, t194, t197, t200, t203, t204⟩, A250, H⟩ := H
        replace H : (if t204 = 0 then ((hash_Gate.f t190 t191 t194 t197 t200 a2 a1).bind fun bt206 => ((values_All.f a0_0 l0_1 l0_2 l0_3 l0_4 l3 l4).bind fun bt222 => ((values_All.f t190 t191 t194 t197 t200 l3 l4).bind fun bt226 => (if bt206.2.2.2.2.2.2 = 0 then (if bt206.2.2.2.2.2.1 = t203 then ((spiritlevelref02_Same.f kj6 t190 t191 t194 t197 t200 bt206.1 bt206.2.1 bt206.2.2.1 bt206.2.2.2.1 bt206.2.2.2.2.1).bind fun t230 => (if t230 = true then (if bt222.2 = 0 then (if bt226.2 = 0 then (if (bt226.1.length : Int) < (bt222.1.length : Int) then (spiritlevellaw26_HashGate.j1 kj6 a1 a2 t187 t203 bt222.1 bt226.1 true) else (if (bt226.1.length : Int) > (wrap64 ((bt222.1.length : Int) + 1)) then (spiritlevellaw26_HashGate.j1 kj6 a1 a2 t187 t203 bt222.1 bt226.1 true) else (if 0 ≤ (bt222.1.length : Int) then (if (bt222.1.length : Int) ≤ (bt226.1.length : Int) then ((spiritlevelref04_Same.f kj6 (bt226.1.take ((bt222.1.length : Int) : Int).toNat) bt222.1).bind fun t235 => (spiritlevellaw26_HashGate.j1 kj6 a1 a2 t187 t203 bt222.1 bt226.1 (!t235))) else (none)) else (none)))) else (spiritlevellaw26_HashGate.j1 kj6 a1 a2 t187 t203 bt222.1 bt226.1 true)) else (spiritlevellaw26_HashGate.j1 kj6 a1 a2 t187 t203 bt222.1 bt226.1 true)) else (spiritlevellaw26_HashGate.j1 kj6 a1 a2 t187 t203 bt222.1 bt226.1 true))) else (spiritlevellaw26_HashGate.j1 kj6 a1 a2 t187 t203 bt222.1 bt226.1 true)) else (spiritlevellaw26_HashGate.j1 kj6 a1 a2 t187 t203 bt222.1 bt226.1 true))))) else (some t187)) = some r := H
        have A25 := Aside0.mk A250
        clear A250
        by_cases c26 : t204 = 0
        · rw [if_pos c26] at H
          have c26b0 : (t204 == 0) = true := beq_iff_eq.mpr c26
          have c26b1 : (t204 != 0) = false := bne_eq_false_iff_eq.mpr c26
          clear c26
          replace H := Option.bind_eq_some_iff.mp H
          obtain ⟨⟨t206, t207, t210, t213, t216, t219, t220⟩, A270, H⟩ := H
          replace H : ((values_All.f a0_0 l0_1 l0_2 l0_3 l0_4 l3 l4).bind fun bt222 => ((values_All.f t190 t191 t194 t197 t200 l3 l4).bind fun bt226 => (if t220 = 0 then (if t219 = t203 then ((spiritlevelref02_Same.f kj6 t190 t191 t194 t197 t200 t206 t207 t210 t213 t216).bind fun t230 => (if t230 = true then (if bt222.2 = 0 then (if bt226.2 = 0 then (if (bt226.1.length : Int) < (bt222.1.length : Int) then (spiritlevellaw26_HashGate.j1 kj6 a1 a2 t187 t203 bt222.1 bt226.1 true) else (if (bt226.1.length : Int) > (wrap64 ((bt222.1.length : Int) + 1)) then (spiritlevellaw26_HashGate.j1 kj6 a1 a2 t187 t203 bt222.1 bt226.1 true) else (if 0 ≤ (bt222.1.length : Int) then (if (bt222.1.length : Int) ≤ (bt226.1.length : Int) then ((spiritlevelref04_Same.f kj6 (bt226.1.take ((bt222.1.length : Int) : Int).toNat) bt222.1).bind fun t235 => (spiritlevellaw26_HashGate.j1 kj6 a1 a2 t187 t203 bt222.1 bt226.1 (!t235))) else (none)) else (none)))) else (spiritlevellaw26_HashGate.j1 kj6 a1 a2 t187 t203 bt222.1 bt226.1 true)) else (spiritlevellaw26_HashGate.j1 kj6 a1 a2 t187 t203 bt222.1 bt226.1 true)) else (spiritlevellaw26_HashGate.j1 kj6 a1 a2 t187 t203 bt222.1 bt226.1 true))) else (spiritlevellaw26_HashGate.j1 kj6 a1 a2 t187 t203 bt222.1 bt226.1 true)) else (spiritlevellaw26_HashGate.j1 kj6 a1 a2 t187 t203 bt222.1 bt226.1 true)))) = some r := H
          have A27 := Aside0.mk A270
          clear A270
          replace H := Option.bind_eq_some_iff.mp H
          obtain ⟨⟨t222, t225⟩, A280, H⟩ := H
          replace H : ((values_All.f t190 t191 t194 t197 t200 l3 l4).bind fun bt226 => (if t220 = 0 then (if t219 = t203 then ((spiritlevelref02_Same.f kj6 t190 t191 t194 t197 t200 t206 t207 t210 t213 t216).bind fun t230 => (if t230 = true then (if t225 = 0 then (if bt226.2 = 0 then (if (bt226.1.length : Int) < (t222.length : Int) then (spiritlevellaw26_HashGate.j1 kj6 a1 a2 t187 t203 t222 bt226.1 true) else (if (bt226.1.length : Int) > (wrap64 ((t222.length : Int) + 1)) then (spiritlevellaw26_HashGate.j1 kj6 a1 a2 t187 t203 t222 bt226.1 true) else (if 0 ≤ (t222.length : Int) then (if (t222.length : Int) ≤ (bt226.1.length : Int) then ((spiritlevelref04_Same.f kj6 (bt226.1.take ((t222.length : Int) : Int).toNat) t222).bind fun t235 => (spiritlevellaw26_HashGate.j1 kj6 a1 a2 t187 t203 t222 bt226.1 (!t235))) else (none)) else (none)))) else (spiritlevellaw26_HashGate.j1 kj6 a1 a2 t187 t203 t222 bt226.1 true)) else (spiritlevellaw26_HashGate.j1 kj6 a1 a2 t187 t203 t222 bt226.1 true)) else (spiritlevellaw26_HashGate.j1 kj6 a1 a2 t187 t203 t222 bt226.1 true))) else (spiritlevellaw26_HashGate.j1 kj6 a1 a2 t187 t203 t222 bt226.1 true)) else (spiritlevellaw26_HashGate.j1 kj6 a1 a2 t187 t203 t222 bt226.1 true))) = some r := H
          have A28 := Aside0.mk A280
          clear A280
          replace H := Option.bind_eq_some_iff.mp H
          obtain ⟨⟨t226, t229⟩, A290, H⟩ := H
          replace H : (if t220 = 0 then (if t219 = t203 then ((spiritlevelref02_Same.f kj6 t190 t191 t194 t197 t200 t206 t207 t210 t213 t216).bind fun t230 => (if t230 = true then (if t225 = 0 then (if t229 = 0 then (if (t226.length : Int) < (t222.length : Int) then (spiritlevellaw26_HashGate.j1 kj6 a1 a2 t187 t203 t222 t226 true) else (if (t226.length : Int) > (wrap64 ((t222.length : Int) + 1)) then (spiritlevellaw26_HashGate.j1 kj6 a1 a2 t187 t203 t222 t226 true) else (if 0 ≤ (t222.length : Int) then (if (t222.length : Int) ≤ (t226.length : Int) then ((spiritlevelref04_Same.f kj6 (t226.take ((t222.length : Int) : Int).toNat) t222).bind fun t235 => (spiritlevellaw26_HashGate.j1 kj6 a1 a2 t187 t203 t222 t226 (!t235))) else (none)) else (none)))) else (spiritlevellaw26_HashGate.j1 kj6 a1 a2 t187 t203 t222 t226 true)) else (spiritlevellaw26_HashGate.j1 kj6 a1 a2 t187 t203 t222 t226 true)) else (spiritlevellaw26_HashGate.j1 kj6 a1 a2 t187 t203 t222 t226 true))) else (spiritlevellaw26_HashGate.j1 kj6 a1 a2 t187 t203 t222 t226 true)) else (spiritlevellaw26_HashGate.j1 kj6 a1 a2 t187 t203 t222 t226 true)) = some r := H
          have A29 := Aside0.mk A290
          clear A290
          have HC30 := Aside0.mk H
          clear H
          have hcz31_0 : wc.cell? ⟨gb186, 0, none⟩ = some (.int .i64 a0_0) := (blk_cell BK186.out 0).trans rfl
          have hcz31_1 : wc.cell? ⟨gb186, 1, none⟩ = some (.slice A0_1 l0_1.length c0_1) := (blk_cell BK186.out 1).trans rfl
          have hcz31_2 : wc.cell? ⟨gb186, 2, none⟩ = some (.slice A0_2 l0_2.length c0_2) := (blk_cell BK186.out 2).trans rfl
          have hcz31_3 : wc.cell? ⟨gb186, 3, none⟩ = some (.slice A0_3 l0_3.length c0_3) := (blk_cell BK186.out 3).trans rfl
          have hcz31_4 : wc.cell? ⟨gb186, 4, none⟩ = some (.slice A0_4 l0_4.length c0_4) := (blk_cell BK186.out 4).trans rfl
          have hfz31_0 := blk_frozen BK186.out 0
          have hfz31_1 := blk_frozen BK186.out 1
          have hfz31_2 := blk_frozen BK186.out 2
          have hfz31_3 := blk_frozen BK186.out 3
          have hfz31_4 := blk_frozen BK186.out 4
          go_upto_region 10 with (first | ((with_reducible refine gate_callee (f := 9) rfl ?_); refine goesL_ (some 47) rfl rfl Try.func9 (by kernel_rfl) rfl #[.agg #[.int .i64 a0_0, .slice A0_1 l0_1.length c0_1, .slice A0_2 l0_2.length c0_2, .slice A0_3 l0_3.length c0_3, .slice A0_4 l0_4.length c0_4], .int .i64 a1, .int .i64 a2] rfl (by (try simp only [List.map_toArray, List.map_cons, List.map_nil]); first | done | rfl | (simp only [List.length_drop, List.length_take]; rfl)) ?_; (with_reducible refine (hash_Gate.calls a0_0 _ _ l0_1 _ _ l0_2 _ _ l0_3 _ _ l0_4 a1 a2 t190 t191 t194 t197 t200 t203 t204 _ ?side1 ?side2 ?side3 ?side4 ?side5 ?side6 ?side7 ?side8 A25.out).mono ?_); (case side1 => repeat (first | exact (Kd.C_below HR0_1.out HB.out) | (with_reducible refine Kd.C_alloc ?_ _) | (with_reducible refine Kd.C_drewN ?_ _) | (with_reducible refine Kd.C_drew ?_))); (case side2 => exact HC0_1.out); (case side3 => repeat (first | exact (Kd.C_below HR0_2.out HB.out) | (with_reducible refine Kd.C_alloc ?_ _) | (with_reducible refine Kd.C_drewN ?_ _) | (with_reducible refine Kd.C_drew ?_))); (case side4 => exact HC0_2.out); (case side5 => repeat (first | exact (Kd.C_below HR0_3.out HB.out) | (with_reducible refine Kd.C_alloc ?_ _) | (with_reducible refine Kd.C_drewN ?_ _) | (with_reducible refine Kd.C_drew ?_))); (case side6 => exact HC0_3.out); (case side7 => repeat (first | exact (Kd.C_below HR0_4.out HB.out) | (with_reducible refine Kd.C_alloc ?_ _) | (with_reducible refine Kd.C_drewN ?_ _) | (with_reducible refine Kd.C_drew ?_))); (case side8 => exact HC0_4.out); rintro e w32 ⟨v192, v195, v198, v201, rfl, ho0, ho1, ho2, ho3, hb⟩; refine ⟨_, rfl, ?_⟩; have n0_ := Aside0.mk (Kd.R_lower ho0 (below_size (by repeat (first | (with_reducible first | exact HB.out | apply below_alloc | apply pw_below_drewN | apply below_drew1 | refine below_set ?_ GE186.out) | exact HB.out)))); have n1_ := Aside0.mk (Kd.R_lower ho1 (below_size (by repeat (first | (with_reducible first | exact HB.out | apply below_alloc | apply pw_below_drewN | apply below_drew1 | refine below_set ?_ GE186.out) | exact HB.out)))); have n2_ := Aside0.mk (Kd.R_lower ho2 (below_size (by repeat (first | (with_reducible first | exact HB.out | apply below_alloc | apply pw_below_drewN | apply below_drew1 | refine below_set ?_ GE186.out) | exact HB.out)))); have n3_ := Aside0.mk (Kd.R_lower ho3 (below_size (by repeat (first | (with_reducible first | exact HB.out | apply below_alloc | apply pw_below_drewN | apply below_drew1 | refine below_set ?_ GE186.out) | exact HB.out)))); have n4_ := Aside0.mk (blk_below (g := gb186) (o := .cells #[.int .i64 a0_0, .slice A0_1 l0_1.length c0_1, .slice A0_2 l0_2.length c0_2, .slice A0_3 l0_3.length c0_3, .slice A0_4 l0_4.length c0_4] 26 (0, 0)) (by (with_reducible repeat (first | refine blk_drewN ?_ _ | refine blk_drew ?_ | refine blk_alloc ?_ _)); exact BK186.out) hb); have n5_ := Aside0.mk (below_step (by repeat (first | (with_reducible first | exact HB.out | apply below_alloc | apply pw_below_drewN | apply below_drew1 | refine below_set ?_ GE186.out) | exact HB.out)) hb); clear BK186; clear HB; have HO193 := n0_; have HO196 := n1_; have HO199 := n2_; have HO202 := n3_; have BK186 := n4_; have HB := n5_; clear n0_ n1_ n2_ n3_ n4_ n5_; (try clear hb); (try clear hb2); (try clear hk); (try clear hi); (try clear ho0); (try clear ho1); (try clear ho2); (try clear ho3)) | ((with_reducible refine gate_dst (N := 12) rfl ?_); (try (refine gate_guard (by rfl) ?_; dsimp only)); refine box_event ?hg (N := 12) ?hd (cs := #[.int .i64 0, .slice none 0 0, .slice none 0 0, .slice none 0 0, .slice none 0 0]) (t := 26) ?hr ?_; (case hd => rfl); (case hg => rfl); (case hr => first | (go_simp; done) | (go_simp; rfl)); intro gb205 hg w33 hbox hb; have n0_ := Aside0.mk (Kd.R_below (by (with_reducible repeat (first | apply Kd.R_alloc | apply Kd.R_drewN | apply Kd.R_drew)); exact HO193.out) hb); have n1_ := Aside0.mk (Kd.R_below (by (with_reducible repeat (first | apply Kd.R_alloc | apply Kd.R_drewN | apply Kd.R_drew)); exact HO196.out) hb); have n2_ := Aside0.mk (Kd.R_below (by (with_reducible repeat (first | apply Kd.R_alloc | apply Kd.R_drewN | apply Kd.R_drew)); exact HO199.out) hb); have n3_ := Aside0.mk (Kd.R_below (by (with_reducible repeat (first | apply Kd.R_alloc | apply Kd.R_drewN | apply Kd.R_drew)); exact HO202.out) hb); have n4_ := Aside0.mk (blk_below (g := gb186) (o := .cells #[.int .i64 a0_0, .slice A0_1 l0_1.length c0_1, .slice A0_2 l0_2.length c0_2, .slice A0_3 l0_3.length c0_3, .slice A0_4 l0_4.length c0_4] 26 (0, 0)) (by (with_reducible repeat (first | refine blk_drewN ?_ _ | refine blk_drew ?_ | refine blk_alloc ?_ _)); exact BK186.out) hb); have n5_ := Aside0.mk (below_step (by repeat (first | (with_reducible first | exact HB.out | apply below_alloc | apply pw_below_drewN | apply below_drew1 | refine below_set ?_ GE186.out) | exact HB.out)) hb); have n6_ := Aside0.mk (hbox); have n7_ := Aside0.mk ((by rw [hg]; exact (below_size (by repeat (first | (with_reducible first | exact HB.out | apply below_alloc | apply pw_below_drewN | apply below_drew1 | refine below_set ?_ GE186.out) | exact HB.out))) : w.heap.size ≤ gb205)); have n8_ := Aside0.mk ((by rw [hg]; exact (below_size (by repeat (first | (with_reducible first | exact HB.out | apply below_alloc | apply pw_below_drewN | apply below_drew1 | refine below_set ?_ GE186.out) | exact HB.out))) : w.heap.size ≤ gb205)); have n9_ := Aside0.mk ((by rw [hg]; exact Nat.ne_of_lt (blk_lt (g := gb186) (o := .cells #[.int .i64 a0_0, .slice A0_1 l0_1.length c0_1, .slice A0_2 l0_2.length c0_2, .slice A0_3 l0_3.length c0_3, .slice A0_4 l0_4.length c0_4] 26 (0, 0)) (by (with_reducible repeat (first | refine blk_drewN ?_ _ | refine blk_drew ?_ | refine blk_alloc ?_ _)); exact BK186.out)) : gb186 ≠ gb205)); have n10_ := Aside0.mk ((by rw [hg]; exact Nat.ne_of_gt (blk_lt (g := gb186) (o := .cells #[.int .i64 a0_0, .slice A0_1 l0_1.length c0_1, .slice A0_2 l0_2.length c0_2, .slice A0_3 l0_3.length c0_3, .slice A0_4 l0_4.length c0_4] 26 (0, 0)) (by (with_reducible repeat (first | refine blk_drewN ?_ _ | refine blk_drew ?_ | refine blk_alloc ?_ _)); exact BK186.out)) : gb205 ≠ gb186)); clear HO193; clear HO196; clear HO199; clear HO202; clear BK186; clear HB; have HO193 := n0_; have HO196 := n1_; have HO199 := n2_; have HO202 := n3_; have BK186 := n4_; have HB := n5_; have BK205 := n6_; have GW205 := n7_; have GE205 := n8_; have NB186_205 := n9_; have NB205_186 := n10_; clear n0_ n1_ n2_ n3_ n4_ n5_ n6_ n7_ n8_ n9_ n10_; clear hb hbox hg; have hnb34 := NB205_186.out; have hnc34 := NB186_205.out; have hcz35_0 : w33.cell? ⟨gb205, 0, none⟩ = some (.int .i64 0) := (blk_cell BK205.out 0).trans rfl; have hcz35_1 : w33.cell? ⟨gb205, 1, none⟩ = some (.slice none 0 0) := (blk_cell BK205.out 1).trans rfl; have hcz35_2 : w33.cell? ⟨gb205, 2, none⟩ = some (.slice none 0 0) := (blk_cell BK205.out 2).trans rfl; have hcz35_3 : w33.cell? ⟨gb205, 3, none⟩ = some (.slice none 0 0) := (blk_cell BK205.out 3).trans rfl; have hcz35_4 : w33.cell? ⟨gb205, 4, none⟩ = some (.slice none 0 0) := (blk_cell BK205.out 4).trans rfl; have hfz35_0 := blk_frozen BK205.out 0; have hfz35_1 := blk_frozen BK205.out 1; have hfz35_2 := blk_frozen BK205.out 2; have hfz35_3 := blk_frozen BK205.out 3; have hfz35_4 := blk_frozen BK205.out 4; obtain ⟨Ao36, co36, eo36⟩ := Kd.R_slice HO193.out; subst eo36; obtain ⟨Ao37, co37, eo37⟩ := Kd.R_slice HO196.out; subst eo37; obtain ⟨Ao38, co38, eo38⟩ := Kd.R_slice HO199.out; subst eo38; obtain ⟨Ao39, co39, eo39⟩ := Kd.R_slice HO202.out; subst eo39) | ((with_reducible refine gate_callee (f := 9) rfl ?_); refine goesL_ (some 58) rfl rfl Try.func9 (by kernel_rfl) rfl #[.agg #[.int .i64 t190, .slice Ao36 t191.length co36, .slice Ao37 t194.length co37, .slice Ao38 t197.length co38, .slice Ao39 t200.length co39], .int .i64 a2, .int .i64 a1] rfl (by (try simp only [List.map_toArray, List.map_cons, List.map_nil]); first | done | rfl | (simp only [List.length_drop, List.length_take]; rfl)) ?_; (with_reducible refine (hash_Gate.calls t190 _ _ t191 _ _ t194 _ _ t197 _ _ t200 a2 a1 t206 t207 t210 t213 t216 t219 t220 _ ?side1 ?side2 ?side3 ?side4 ?side5 ?side6 ?side7 ?side8 A27.out).mono ?_); (case side1 => refine (Kd.R_reads' (e := 86) (base := w.heap.size) (ok := fun k_ => True) (n := t191.length) (c := co36) ?_).2.2; exact (by (with_reducible repeat (first | apply Kd.R_alloc | apply Kd.R_drewN | apply Kd.R_drew)); exact (Kd.R_mono (Kd.R_far (p := ⟨gb205, 4, none⟩) (Kd.R_far (p := ⟨gb205, 3, none⟩) (Kd.R_far (p := ⟨gb205, 2, none⟩) (Kd.R_far (p := ⟨gb205, 1, none⟩) (Kd.R_far (p := ⟨gb205, 0, none⟩) (Kd.R_types HO193.out BK205.out (by decide)) (fun _ hk => hk.2) (.int .i64 t190)) (fun _ hk => hk.2) (.slice Ao36 t191.length co36)) (fun _ hk => hk.2) (.slice Ao37 t194.length co37)) (fun _ hk => hk.2) (.slice Ao38 t197.length co38)) (fun _ hk => hk.2) (.slice Ao39 t200.length co39)) (fun _ h_ => h_.1)))); (case side2 => exact (Kd.R_reads' HO193.out).2.1); (case side3 => refine (Kd.R_reads' (e := 67) (base := w.heap.size) (ok := fun k_ => True) (n := t194.length) (c := co37) ?_).2.2; exact (by (with_reducible repeat (first | apply Kd.R_alloc | apply Kd.R_drewN | apply Kd.R_drew)); exact (Kd.R_mono (Kd.R_far (p := ⟨gb205, 4, none⟩) (Kd.R_far (p := ⟨gb205, 3, none⟩) (Kd.R_far (p := ⟨gb205, 2, none⟩) (Kd.R_far (p := ⟨gb205, 1, none⟩) (Kd.R_far (p := ⟨gb205, 0, none⟩) (Kd.R_types HO196.out BK205.out (by decide)) (fun _ hk => hk.2) (.int .i64 t190)) (fun _ hk => hk.2) (.slice Ao36 t191.length co36)) (fun _ hk => hk.2) (.slice Ao37 t194.length co37)) (fun _ hk => hk.2) (.slice Ao38 t197.length co38)) (fun _ hk => hk.2) (.slice Ao39 t200.length co39)) (fun _ h_ => h_.1)))); (case side4 => exact (Kd.R_reads' HO196.out).2.1); (case side5 => refine (Kd.R_reads' (e := 3) (base := w.heap.size) (ok := fun k_ => some k_ ≠ (.slice Ao39 t200.length co39 : Value).ownBlock) (n := t197.length) (c := co38) ?_).2.2; exact (by (with_reducible repeat (first | apply Kd.R_alloc | apply Kd.R_drewN | apply Kd.R_drew)); exact (Kd.R_mono (Kd.R_far (p := ⟨gb205, 4, none⟩) (Kd.R_far (p := ⟨gb205, 3, none⟩) (Kd.R_far (p := ⟨gb205, 2, none⟩) (Kd.R_far (p := ⟨gb205, 1, none⟩) (Kd.R_far (p := ⟨gb205, 0, none⟩) (Kd.R_types HO199.out BK205.out (by decide)) (fun _ hk => hk.2) (.int .i64 t190)) (fun _ hk => hk.2) (.slice Ao36 t191.length co36)) (fun _ hk => hk.2) (.slice Ao37 t194.length co37)) (fun _ hk => hk.2) (.slice Ao38 t197.length co38)) (fun _ hk => hk.2) (.slice Ao39 t200.length co39)) (fun _ h_ => h_.1)))); (case side6 => exact (Kd.R_reads' HO199.out).2.1); (case side7 => refine (Kd.R_reads' (e := 3) (base := w.heap.size) (ok := fun k_ => some k_ ≠ (.slice Ao38 t197.length co38 : Value).ownBlock) (n := t200.length) (c := co39) ?_).2.2; exact (by (with_reducible repeat (first | apply Kd.R_alloc | apply Kd.R_drewN | apply Kd.R_drew)); exact (Kd.R_mono (Kd.R_far (p := ⟨gb205, 4, none⟩) (Kd.R_far (p := ⟨gb205, 3, none⟩) (Kd.R_far (p := ⟨gb205, 2, none⟩) (Kd.R_far (p := ⟨gb205, 1, none⟩) (Kd.R_far (p := ⟨gb205, 0, none⟩) (Kd.R_types HO202.out BK205.out (by decide)) (fun _ hk => hk.2) (.int .i64 t190)) (fun _ hk => hk.2) (.slice Ao36 t191.length co36)) (fun _ hk => hk.2) (.slice Ao37 t194.length co37)) (fun _ hk => hk.2) (.slice Ao38 t197.length co38)) (fun _ hk => hk.2) (.slice Ao39 t200.length co39)) (fun _ h_ => h_.1)))); (case side8 => exact (Kd.R_reads' HO202.out).2.1); rintro e w40 ⟨v208, v211, v214, v217, rfl, ho0, ho1, ho2, ho3, hb⟩; refine ⟨_, rfl, ?_⟩; have n0_ := Aside0.mk (Kd.R_elder' (by (with_reducible repeat (first | apply Kd.R_alloc | apply Kd.R_drewN | apply Kd.R_drew)); exact (Kd.R_mono (Kd.R_far (p := ⟨gb205, 4, none⟩) (Kd.R_far (p := ⟨gb205, 3, none⟩) (Kd.R_far (p := ⟨gb205, 2, none⟩) (Kd.R_far (p := ⟨gb205, 1, none⟩) (Kd.R_far (p := ⟨gb205, 0, none⟩) (Kd.R_types HO193.out BK205.out (by decide)) (fun _ hk => hk.2) (.int .i64 t190)) (fun _ hk => hk.2) (.slice Ao36 t191.length co36)) (fun _ hk => hk.2) (.slice Ao37 t194.length co37)) (fun _ hk => hk.2) (.slice Ao38 t197.length co38)) (fun _ hk => hk.2) (.slice Ao39 t200.length co39)) (fun _ h_ => h_.1))) (Kd.R_base ho0) hb); have n1_ := Aside0.mk (Kd.R_elder' (by (with_reducible repeat (first | apply Kd.R_alloc | apply Kd.R_drewN | apply Kd.R_drew)); exact (Kd.R_mono (Kd.R_far (p := ⟨gb205, 4, none⟩) (Kd.R_far (p := ⟨gb205, 3, none⟩) (Kd.R_far (p := ⟨gb205, 2, none⟩) (Kd.R_far (p := ⟨gb205, 1, none⟩) (Kd.R_far (p := ⟨gb205, 0, none⟩) (Kd.R_types HO196.out BK205.out (by decide)) (fun _ hk => hk.2) (.int .i64 t190)) (fun _ hk => hk.2) (.slice Ao36 t191.length co36)) (fun _ hk => hk.2) (.slice Ao37 t194.length co37)) (fun _ hk => hk.2) (.slice Ao38 t197.length co38)) (fun _ hk => hk.2) (.slice Ao39 t200.length co39)) (fun _ h_ => h_.1))) (Kd.R_base ho1) hb); have n2_ := Aside0.mk (Kd.R_mono (Kd.R_told (Kd.R_told (Kd.R_old (by (with_reducible repeat (first | apply Kd.R_alloc | apply Kd.R_drewN | apply Kd.R_drew)); exact (Kd.R_mono (Kd.R_far (p := ⟨gb205, 4, none⟩) (Kd.R_far (p := ⟨gb205, 3, none⟩) (Kd.R_far (p := ⟨gb205, 2, none⟩) (Kd.R_far (p := ⟨gb205, 1, none⟩) (Kd.R_far (p := ⟨gb205, 0, none⟩) (Kd.R_types HO199.out BK205.out (by decide)) (fun _ hk => hk.2) (.int .i64 t190)) (fun _ hk => hk.2) (.slice Ao36 t191.length co36)) (fun _ hk => hk.2) (.slice Ao37 t194.length co37)) (fun _ hk => hk.2) (.slice Ao38 t197.length co38)) (fun _ hk => hk.2) (.slice Ao39 t200.length co39)) (fun _ h_ => h_.1))) hb) (Kd.R_base ho2)) (Kd.R_base ho3)) (fun _ h_ => h_.1)); have n3_ := Aside0.mk (Kd.R_mono (Kd.R_told (Kd.R_told (Kd.R_old (by (with_reducible repeat (first | apply Kd.R_alloc | apply Kd.R_drewN | apply Kd.R_drew)); exact (Kd.R_mono (Kd.R_far (p := ⟨gb205, 4, none⟩) (Kd.R_far (p := ⟨gb205, 3, none⟩) (Kd.R_far (p := ⟨gb205, 2, none⟩) (Kd.R_far (p := ⟨gb205, 1, none⟩) (Kd.R_far (p := ⟨gb205, 0, none⟩) (Kd.R_types HO202.out BK205.out (by decide)) (fun _ hk => hk.2) (.int .i64 t190)) (fun _ hk => hk.2) (.slice Ao36 t191.length co36)) (fun _ hk => hk.2) (.slice Ao37 t194.length co37)) (fun _ hk => hk.2) (.slice Ao38 t197.length co38)) (fun _ hk => hk.2) (.slice Ao39 t200.length co39)) (fun _ h_ => h_.1))) hb) (Kd.R_base ho2)) (Kd.R_base ho3)) (fun _ h_ => h_.1)); have n4_ := Aside0.mk (Kd.R_lower (Kd.R_new' ho0 (Kd.R_lt (by (with_reducible repeat (first | apply Kd.R_alloc | apply Kd.R_drewN | apply Kd.R_drew)); exact (Kd.R_mono (Kd.R_far (p := ⟨gb205, 4, none⟩) (Kd.R_far (p := ⟨gb205, 3, none⟩) (Kd.R_far (p := ⟨gb205, 2, none⟩) (Kd.R_far (p := ⟨gb205, 1, none⟩) (Kd.R_far (p := ⟨gb205, 0, none⟩) (Kd.R_types HO193.out BK205.out (by decide)) (fun _ hk => hk.2) (.int .i64 t190)) (fun _ hk => hk.2) (.slice Ao36 t191.length co36)) (fun _ hk => hk.2) (.slice Ao37 t194.length co37)) (fun _ hk => hk.2) (.slice Ao38 t197.length co38)) (fun _ hk => hk.2) (.slice Ao39 t200.length co39)) (fun _ h_ => h_.1))))) (below_size (by repeat (first | (with_reducible first | exact HB.out | apply below_alloc | apply pw_below_drewN | apply below_drew1 | refine below_set ?_ GE186.out | refine below_set ?_ GE205.out) | exact HB.out)))); have n5_ := Aside0.mk (Kd.R_lower (Kd.R_new' ho1 (Kd.R_lt (by (with_reducible repeat (first | apply Kd.R_alloc | apply Kd.R_drewN | apply Kd.R_drew)); exact (Kd.R_mono (Kd.R_far (p := ⟨gb205, 4, none⟩) (Kd.R_far (p := ⟨gb205, 3, none⟩) (Kd.R_far (p := ⟨gb205, 2, none⟩) (Kd.R_far (p := ⟨gb205, 1, none⟩) (Kd.R_far (p := ⟨gb205, 0, none⟩) (Kd.R_types HO196.out BK205.out (by decide)) (fun _ hk => hk.2) (.int .i64 t190)) (fun _ hk => hk.2) (.slice Ao36 t191.length co36)) (fun _ hk => hk.2) (.slice Ao37 t194.length co37)) (fun _ hk => hk.2) (.slice Ao38 t197.length co38)) (fun _ hk => hk.2) (.slice Ao39 t200.length co39)) (fun _ h_ => h_.1))))) (below_size (by repeat (first | (with_reducible first | exact HB.out | apply below_alloc | apply pw_below_drewN | apply below_drew1 | refine below_set ?_ GE186.out | refine below_set ?_ GE205.out) | exact HB.out)))); have n6_ := Aside0.mk (Kd.R_lower (Kd.R_new' (Kd.R_new' ho2 (Kd.R_lt (by (with_reducible repeat (first | apply Kd.R_alloc | apply Kd.R_drewN | apply Kd.R_drew)); exact (Kd.R_mono (Kd.R_far (p := ⟨gb205, 4, none⟩) (Kd.R_far (p := ⟨gb205, 3, none⟩) (Kd.R_far (p := ⟨gb205, 2, none⟩) (Kd.R_far (p := ⟨gb205, 1, none⟩) (Kd.R_far (p := ⟨gb205, 0, none⟩) (Kd.R_types HO199.out BK205.out (by decide)) (fun _ hk => hk.2) (.int .i64 t190)) (fun _ hk => hk.2) (.slice Ao36 t191.length co36)) (fun _ hk => hk.2) (.slice Ao37 t194.length co37)) (fun _ hk => hk.2) (.slice Ao38 t197.length co38)) (fun _ hk => hk.2) (.slice Ao39 t200.length co39)) (fun _ h_ => h_.1))))) (Kd.R_lt (by (with_reducible repeat (first | apply Kd.R_alloc | apply Kd.R_drewN | apply Kd.R_drew)); exact (Kd.R_mono (Kd.R_far (p := ⟨gb205, 4, none⟩) (Kd.R_far (p := ⟨gb205, 3, none⟩) (Kd.R_far (p := ⟨gb205, 2, none⟩) (Kd.R_far (p := ⟨gb205, 1, none⟩) (Kd.R_far (p := ⟨gb205, 0, none⟩) (Kd.R_types HO202.out BK205.out (by decide)) (fun _ hk => hk.2) (.int .i64 t190)) (fun _ hk => hk.2) (.slice Ao36 t191.length co36)) (fun _ hk => hk.2) (.slice Ao37 t194.length co37)) (fun _ hk => hk.2) (.slice Ao38 t197.length co38)) (fun _ hk => hk.2) (.slice Ao39 t200.length co39)) (fun _ h_ => h_.1))))) (below_size (by repeat (first | (with_reducible first | exact HB.out | apply below_alloc | apply pw_below_drewN | apply below_drew1 | refine below_set ?_ GE186.out | refine below_set ?_ GE205.out) | exact HB.out)))); have n7_ := Aside0.mk (Kd.R_lower (Kd.R_new' (Kd.R_new' ho3 (Kd.R_lt (by (with_reducible repeat (first | apply Kd.R_alloc | apply Kd.R_drewN | apply Kd.R_drew)); exact (Kd.R_mono (Kd.R_far (p := ⟨gb205, 4, none⟩) (Kd.R_far (p := ⟨gb205, 3, none⟩) (Kd.R_far (p := ⟨gb205, 2, none⟩) (Kd.R_far (p := ⟨gb205, 1, none⟩) (Kd.R_far (p := ⟨gb205, 0, none⟩) (Kd.R_types HO199.out BK205.out (by decide)) (fun _ hk => hk.2) (.int .i64 t190)) (fun _ hk => hk.2) (.slice Ao36 t191.length co36)) (fun _ hk => hk.2) (.slice Ao37 t194.length co37)) (fun _ hk => hk.2) (.slice Ao38 t197.length co38)) (fun _ hk => hk.2) (.slice Ao39 t200.length co39)) (fun _ h_ => h_.1))))) (Kd.R_lt (by (with_reducible repeat (first | apply Kd.R_alloc | apply Kd.R_drewN | apply Kd.R_drew)); exact (Kd.R_mono (Kd.R_far (p := ⟨gb205, 4, none⟩) (Kd.R_far (p := ⟨gb205, 3, none⟩) (Kd.R_far (p := ⟨gb205, 2, none⟩) (Kd.R_far (p := ⟨gb205, 1, none⟩) (Kd.R_far (p := ⟨gb205, 0, none⟩) (Kd.R_types HO202.out BK205.out (by decide)) (fun _ hk => hk.2) (.int .i64 t190)) (fun _ hk => hk.2) (.slice Ao36 t191.length co36)) (fun _ hk => hk.2) (.slice Ao37 t194.length co37)) (fun _ hk => hk.2) (.slice Ao38 t197.length co38)) (fun _ hk => hk.2) (.slice Ao39 t200.length co39)) (fun _ h_ => h_.1))))) (below_size (by repeat (first | (with_reducible first | exact HB.out | apply below_alloc | apply pw_below_drewN | apply below_drew1 | refine below_set ?_ GE186.out | refine below_set ?_ GE205.out) | exact HB.out)))); have n8_ := Aside0.mk (blk_below (g := gb186) (o := .cells #[.int .i64 a0_0, .slice A0_1 l0_1.length c0_1, .slice A0_2 l0_2.length c0_2, .slice A0_3 l0_3.length c0_3, .slice A0_4 l0_4.length c0_4] 26 (0, 0)) (by (with_reducible repeat (first | refine blk_drewN ?_ _ | refine blk_drew ?_ | refine blk_alloc ?_ _)); refine blk_far ?_ NB186_205.out _; (with_reducible repeat (first | refine blk_drewN ?_ _ | refine blk_drew ?_ | refine blk_alloc ?_ _)); refine blk_far ?_ NB186_205.out _; (with_reducible repeat (first | refine blk_drewN ?_ _ | refine blk_drew ?_ | refine blk_alloc ?_ _)); refine blk_far ?_ NB186_205.out _; (with_reducible repeat (first | refine blk_drewN ?_ _ | refine blk_drew ?_ | refine blk_alloc ?_ _)); refine blk_far ?_ NB186_205.out _; (with_reducible repeat (first | refine blk_drewN ?_ _ | refine blk_drew ?_ | refine blk_alloc ?_ _)); refine blk_far ?_ NB186_205.out _; (with_reducible repeat (first | refine blk_drewN ?_ _ | refine blk_drew ?_ | refine blk_alloc ?_ _)); exact BK186.out) hb); have n9_ := Aside0.mk (blk_below (g := gb205) (o := .cells #[.int .i64 t190, .slice Ao36 t191.length co36, .slice Ao37 t194.length co37, .slice Ao38 t197.length co38, .slice Ao39 t200.length co39] 26 (0, 0)) (by (with_reducible repeat (first | refine blk_drewN ?_ _ | refine blk_drew ?_ | refine blk_alloc ?_ _)); refine blk_put (cs := #[.int .i64 t190, .slice Ao36 t191.length co36, .slice Ao37 t194.length co37, .slice Ao38 t197.length co38, .slice none 0 0]) ?_ 4 _ rfl; (with_reducible repeat (first | refine blk_drewN ?_ _ | refine blk_drew ?_ | refine blk_alloc ?_ _)); refine blk_put (cs := #[.int .i64 t190, .slice Ao36 t191.length co36, .slice Ao37 t194.length co37, .slice none 0 0, .slice none 0 0]) ?_ 3 _ rfl; (with_reducible repeat (first | refine blk_drewN ?_ _ | refine blk_drew ?_ | refine blk_alloc ?_ _)); refine blk_put (cs := #[.int .i64 t190, .slice Ao36 t191.length co36, .slice none 0 0, .slice none 0 0, .slice none 0 0]) ?_ 2 _ rfl; (with_reducible repeat (first | refine blk_drewN ?_ _ | refine blk_drew ?_ | refine blk_alloc ?_ _)); refine blk_put (cs := #[.int .i64 t190, .slice none 0 0, .slice none 0 0, .slice none 0 0, .slice none 0 0]) ?_ 1 _ rfl; (with_reducible repeat (first | refine blk_drewN ?_ _ | refine blk_drew ?_ | refine blk_alloc ?_ _)); refine blk_put (cs := #[.int .i64 0, .slice none 0 0, .slice none 0 0, .slice none 0 0, .slice none 0 0]) ?_ 0 _ rfl; (with_reducible repeat (first | refine blk_drewN ?_ _ | refine blk_drew ?_ | refine blk_alloc ?_ _)); exact BK205.out) hb); have n10_ := Aside0.mk (below_step (by repeat (first | (with_reducible first | exact HB.out | apply below_alloc | apply pw_below_drewN | apply below_drew1 | refine below_set ?_ GE186.out | refine below_set ?_ GE205.out) | exact HB.out)) hb); clear HO193; clear HO196; clear HO199; clear HO202; clear BK186; clear BK205; clear HB; have HO193 := n0_; have HO196 := n1_; have HO199 := n2_; have HO202 := n3_; have HO209 := n4_; have HO212 := n5_; have HO215 := n6_; have HO218 := n7_; have BK186 := n8_; have BK205 := n9_; have HB := n10_; clear n0_ n1_ n2_ n3_ n4_ n5_ n6_ n7_ n8_ n9_ n10_; (try clear hb); (try clear hb2); (try clear hk); (try clear hi); (try clear ho0); (try clear ho1); (try clear ho2); (try clear ho3)) | ((with_reducible refine gate_dst (N := 15) rfl ?_); (try (refine gate_guard (by rfl) ?_; dsimp only)); refine box_event ?hg (N := 15) ?hd (cs := #[.int .i64 0, .slice none 0 0, .slice none 0 0, .slice none 0 0, .slice none 0 0]) (t := 26) ?hr ?_; (case hd => rfl); (case hg => rfl); (case hr => first | (go_simp; done) | (go_simp; rfl)); intro gb221 hg w41 hbox hb; have n0_ := Aside0.mk (Kd.R_below (by (with_reducible repeat (first | apply Kd.R_alloc | apply Kd.R_drewN | apply Kd.R_drew)); exact HO193.out) hb); have n1_ := Aside0.mk (Kd.R_below (by (with_reducible repeat (first | apply Kd.R_alloc | apply Kd.R_drewN | apply Kd.R_drew)); exact HO196.out) hb); have n2_ := Aside0.mk (Kd.R_below (by (with_reducible repeat (first | apply Kd.R_alloc | apply Kd.R_drewN | apply Kd.R_drew)); exact HO199.out) hb); have n3_ := Aside0.mk (Kd.R_below (by (with_reducible repeat (first | apply Kd.R_alloc | apply Kd.R_drewN | apply Kd.R_drew)); exact HO202.out) hb); have n4_ := Aside0.mk (Kd.R_below (by (with_reducible repeat (first | apply Kd.R_alloc | apply Kd.R_drewN | apply Kd.R_drew)); exact HO209.out) hb); have n5_ := Aside0.mk (Kd.R_below (by (with_reducible repeat (first | apply Kd.R_alloc | apply Kd.R_drewN | apply Kd.R_drew)); exact HO212.out) hb); have n6_ := Aside0.mk (Kd.R_below (by (with_reducible repeat (first | apply Kd.R_alloc | apply Kd.R_drewN | apply Kd.R_drew)); exact HO215.out) hb); have n7_ := Aside0.mk (Kd.R_below (by (with_reducible repeat (first | apply Kd.R_alloc | apply Kd.R_drewN | apply Kd.R_drew)); exact HO218.out) hb); have n8_ := Aside0.mk (blk_below (g := gb186) (o := .cells #[.int .i64 a0_0, .slice A0_1 l0_1.length c0_1, .slice A0_2 l0_2.length c0_2, .slice A0_3 l0_3.length c0_3, .slice A0_4 l0_4.length c0_4] 26 (0, 0)) (by (with_reducible repeat (first | refine blk_drewN ?_ _ | refine blk_drew ?_ | refine blk_alloc ?_ _)); exact BK186.out) hb); have n9_ := Aside0.mk (blk_below (g := gb205) (o := .cells #[.int .i64 t190, .slice Ao36 t191.length co36, .slice Ao37 t194.length co37, .slice Ao38 t197.length co38, .slice Ao39 t200.length co39] 26 (0, 0)) (by (with_reducible repeat (first | refine blk_drewN ?_ _ | refine blk_drew ?_ | refine blk_alloc ?_ _)); exact BK205.out) hb); have n10_ := Aside0.mk (below_step (by repeat (first | (with_reducible first | exact HB.out | apply below_alloc | apply pw_below_drewN | apply below_drew1 | refine below_set ?_ GE186.out | refine below_set ?_ GE205.out) | exact HB.out)) hb); have n11_ := Aside0.mk (hbox); have n12_ := Aside0.mk ((by rw [hg]; exact (below_size (by repeat (first | (with_reducible first | exact HB.out | apply below_alloc | apply pw_below_drewN | apply below_drew1 | refine below_set ?_ GE186.out | refine below_set ?_ GE205.out) | exact HB.out))) : w.heap.size ≤ gb221)); have n13_ := Aside0.mk ((by rw [hg]; exact (below_size (by repeat (first | (with_reducible first | exact HB.out | apply below_alloc | apply pw_below_drewN | apply below_drew1 | refine below_set ?_ GE186.out | refine below_set ?_ GE205.out) | exact HB.out))) : w.heap.size ≤ gb221)); have n14_ := Aside0.mk ((by rw [hg]; exact Nat.ne_of_lt (blk_lt (g := gb186) (o := .cells #[.int .i64 a0_0, .slice A0_1 l0_1.length c0_1, .slice A0_2 l0_2.length c0_2, .slice A0_3 l0_3.length c0_3, .slice A0_4 l0_4.length c0_4] 26 (0, 0)) (by (with_reducible repeat (first | refine blk_drewN ?_ _ | refine blk_drew ?_ | refine blk_alloc ?_ _)); exact BK186.out)) : gb186 ≠ gb221)); have n15_ := Aside0.mk ((by rw [hg]; exact Nat.ne_of_gt (blk_lt (g := gb186) (o := .cells #[.int .i64 a0_0, .slice A0_1 l0_1.length c0_1, .slice A0_2 l0_2.length c0_2, .slice A0_3 l0_3.length c0_3, .slice A0_4 l0_4.length c0_4] 26 (0, 0)) (by (with_reducible repeat (first | refine blk_drewN ?_ _ | refine blk_drew ?_ | refine blk_alloc ?_ _)); exact BK186.out)) : gb221 ≠ gb186)); have n16_ := Aside0.mk ((by rw [hg]; exact Nat.ne_of_lt (blk_lt (g := gb205) (o := .cells #[.int .i64 t190, .slice Ao36 t191.length co36, .slice Ao37 t194.length co37, .slice Ao38 t197.length co38, .slice Ao39 t200.length co39] 26 (0, 0)) (by (with_reducible repeat (first | refine blk_drewN ?_ _ | refine blk_drew ?_ | refine blk_alloc ?_ _)); exact BK205.out)) : gb205 ≠ gb221)); have n17_ := Aside0.mk ((by rw [hg]; exact Nat.ne_of_gt (blk_lt (g := gb205) (o := .cells #[.int .i64 t190, .slice Ao36 t191.length co36, .slice Ao37 t194.length co37, .slice Ao38 t197.length co38, .slice Ao39 t200.length co39] 26 (0, 0)) (by (with_reducible repeat (first | refine blk_drewN ?_ _ | refine blk_drew ?_ | refine blk_alloc ?_ _)); exact BK205.out)) : gb221 ≠ gb205)); clear HO193; clear HO196; clear HO199; clear HO202; clear HO209; clear HO212; clear HO215; clear HO218; clear BK186; clear BK205; clear HB; have HO193 := n0_; have HO196 := n1_; have HO199 := n2_; have HO202 := n3_; have HO209 := n4_; have HO212 := n5_; have HO215 := n6_; have HO218 := n7_; have BK186 := n8_; have BK205 := n9_; have HB := n10_; have BK221 := n11_; have GW221 := n12_; have GE221 := n13_; have NB186_221 := n14_; have NB221_186 := n15_; have NB205_221 := n16_; have NB221_205 := n17_; clear n0_ n1_ n2_ n3_ n4_ n5_ n6_ n7_ n8_ n9_ n10_ n11_ n12_ n13_ n14_ n15_ n16_ n17_; clear hb hbox hg; have hnb42 := NB221_186.out; have hnc42 := NB186_221.out; have hnb43 := NB221_205.out; have hnc43 := NB205_221.out; have hcz44_0 : w41.cell? ⟨gb221, 0, none⟩ = some (.int .i64 0) := (blk_cell BK221.out 0).trans rfl; have hcz44_1 : w41.cell? ⟨gb221, 1, none⟩ = some (.slice none 0 0) := (blk_cell BK221.out 1).trans rfl; have hcz44_2 : w41.cell? ⟨gb221, 2, none⟩ = some (.slice none 0 0) := (blk_cell BK221.out 2).trans rfl; have hcz44_3 : w41.cell? ⟨gb221, 3, none⟩ = some (.slice none 0 0) := (blk_cell BK221.out 3).trans rfl; have hcz44_4 : w41.cell? ⟨gb221, 4, none⟩ = some (.slice none 0 0) := (blk_cell BK221.out 4).trans rfl; have hfz44_0 := blk_frozen BK221.out 0; have hfz44_1 := blk_frozen BK221.out 1; have hfz44_2 := blk_frozen BK221.out 2; have hfz44_3 := blk_frozen BK221.out 3; have hfz44_4 := blk_frozen BK221.out 4; obtain ⟨Ao45, co45, eo45⟩ := Kd.R_slice HO209.out; subst eo45; obtain ⟨Ao46, co46, eo46⟩ := Kd.R_slice HO212.out; subst eo46; obtain ⟨Ao47, co47, eo47⟩ := Kd.R_slice HO215.out; subst eo47; obtain ⟨Ao48, co48, eo48⟩ := Kd.R_slice HO218.out; subst eo48; have hcz49_0 : w41.cell? ⟨gb186, 0, none⟩ = some (.int .i64 a0_0) := (blk_cell BK186.out 0).trans rfl; have hcz49_1 : w41.cell? ⟨gb186, 1, none⟩ = some (.slice A0_1 l0_1.length c0_1) := (blk_cell BK186.out 1).trans rfl; have hcz49_2 : w41.cell? ⟨gb186, 2, none⟩ = some (.slice A0_2 l0_2.length c0_2) := (blk_cell BK186.out 2).trans rfl; have hcz49_3 : w41.cell? ⟨gb186, 3, none⟩ = some (.slice A0_3 l0_3.length c0_3) := (blk_cell BK186.out 3).trans rfl; have hcz49_4 : w41.cell? ⟨gb186, 4, none⟩ = some (.slice A0_4 l0_4.length c0_4) := (blk_cell BK186.out 4).trans rfl; have hfz49_0 := blk_frozen BK186.out 0; have hfz49_1 := blk_frozen BK186.out 1; have hfz49_2 := blk_frozen BK186.out 2; have hfz49_3 := blk_frozen BK186.out 3; have hfz49_4 := blk_frozen BK186.out 4) | ((with_reducible refine gate_callee (f := 14) rfl ?_); refine goesL_ (some 66) rfl rfl Try.func14 (by kernel_rfl) rfl #[.agg #[.int .i64 a0_0, .slice A0_1 l0_1.length c0_1, .slice A0_2 l0_2.length c0_2, .slice A0_3 l0_3.length c0_3, .slice A0_4 l0_4.length c0_4], .slice A3 l3.length c3, .slice A4 l4.length c4] rfl (by (try simp only [List.map_toArray, List.map_cons, List.map_nil]); first | done | rfl | (simp only [List.length_drop, List.length_take]; rfl)) ?_; (with_reducible refine (values_All.calls a0_0 _ _ l0_1 _ _ l0_2 _ _ l0_3 _ _ l0_4 _ _ l3 _ _ l4 t222 t225 _ ?side1 ?side2 ?side3 ?side4 ?side5 ?side6 ?side7 ?side8 ?side9 ?side10 ?side11 ?side12 A28.out).mono ?_); (case side1 => exact Kd.C_below HR0_1.out (by repeat (first | (with_reducible first | exact HB.out | apply below_alloc | apply pw_below_drewN | apply below_drew1 | refine below_set ?_ GE186.out | refine below_set ?_ GE205.out | refine below_set ?_ GE221.out) | exact HB.out))); (case side2 => exact HC0_1.out); (case side3 => exact Kd.C_below HR0_2.out (by repeat (first | (with_reducible first | exact HB.out | apply below_alloc | apply pw_below_drewN | apply below_drew1 | refine below_set ?_ GE186.out | refine below_set ?_ GE205.out | refine below_set ?_ GE221.out) | exact HB.out))); (case side4 => exact HC0_2.out); (case side5 => exact Kd.C_below HR0_3.out (by repeat (first | (with_reducible first | exact HB.out | apply below_alloc | apply pw_below_drewN | apply below_drew1 | refine below_set ?_ GE186.out | refine below_set ?_ GE205.out | refine below_set ?_ GE221.out) | exact HB.out))); (case side6 => exact HC0_3.out); (case side7 => exact Kd.C_below HR0_4.out (by repeat (first | (with_reducible first | exact HB.out | apply below_alloc | apply pw_below_drewN | apply below_drew1 | refine below_set ?_ GE186.out | refine below_set ?_ GE205.out | refine below_set ?_ GE221.out) | exact HB.out))); (case side8 => exact HC0_4.out); (case side9 => exact Kd.C_below HR3.out (by repeat (first | (with_reducible first | exact HB.out | apply below_alloc | apply pw_below_drewN | apply below_drew1 | refine below_set ?_ GE186.out | refine below_set ?_ GE205.out | refine below_set ?_ GE221.out) | exact HB.out))); (case side10 => exact HC3.out); (case side11 => exact Kd.C_below HR4.out (by repeat (first | (with_reducible first | exact HB.out | apply below_alloc | apply pw_below_drewN | apply below_drew1 | refine below_set ?_ GE186.out | refine below_set ?_ GE205.out | refine below_set ?_ GE221.out) | exact HB.out))); (case side12 => exact HC4.out); rintro e w50 ⟨v223, rfl, ho0, hb⟩; refine ⟨_, rfl, ?_⟩; have n0_ := Aside0.mk (Kd.R_below (by (with_reducible repeat (first | apply Kd.R_alloc | apply Kd.R_drewN | apply Kd.R_drew)); exact (Kd.R_mono (Kd.R_far (p := ⟨gb221, 4, none⟩) (Kd.R_far (p := ⟨gb221, 3, none⟩) (Kd.R_far (p := ⟨gb221, 2, none⟩) (Kd.R_far (p := ⟨gb221, 1, none⟩) (Kd.R_far (p := ⟨gb221, 0, none⟩) (Kd.R_types HO193.out BK221.out (by decide)) (fun _ hk => hk.2) (.int .i64 t206)) (fun _ hk => hk.2) (.slice Ao45 t207.length co45)) (fun _ hk => hk.2) (.slice Ao46 t210.length co46)) (fun _ hk => hk.2) (.slice Ao47 t213.length co47)) (fun _ hk => hk.2) (.slice Ao48 t216.length co48)) (fun _ h_ => h_.1))) hb); have n1_ := Aside0.mk (Kd.R_below (by (with_reducible repeat (first | apply Kd.R_alloc | apply Kd.R_drewN | apply Kd.R_drew)); exact (Kd.R_mono (Kd.R_far (p := ⟨gb221, 4, none⟩) (Kd.R_far (p := ⟨gb221, 3, none⟩) (Kd.R_far (p := ⟨gb221, 2, none⟩) (Kd.R_far (p := ⟨gb221, 1, none⟩) (Kd.R_far (p := ⟨gb221, 0, none⟩) (Kd.R_types HO196.out BK221.out (by decide)) (fun _ hk => hk.2) (.int .i64 t206)) (fun _ hk => hk.2) (.slice Ao45 t207.length co45)) (fun _ hk => hk.2) (.slice Ao46 t210.length co46)) (fun _ hk => hk.2) (.slice Ao47 t213.length co47)) (fun _ hk => hk.2) (.slice Ao48 t216.length co48)) (fun _ h_ => h_.1))) hb); have n2_ := Aside0.mk (Kd.R_below (by (with_reducible repeat (first | apply Kd.R_alloc | apply Kd.R_drewN | apply Kd.R_drew)); exact (Kd.R_mono (Kd.R_far (p := ⟨gb221, 4, none⟩) (Kd.R_far (p := ⟨gb221, 3, none⟩) (Kd.R_far (p := ⟨gb221, 2, none⟩) (Kd.R_far (p := ⟨gb221, 1, none⟩) (Kd.R_far (p := ⟨gb221, 0, none⟩) (Kd.R_types HO199.out BK221.out (by decide)) (fun _ hk => hk.2) (.int .i64 t206)) (fun _ hk => hk.2) (.slice Ao45 t207.length co45)) (fun _ hk => hk.2) (.slice Ao46 t210.length co46)) (fun _ hk => hk.2) (.slice Ao47 t213.length co47)) (fun _ hk => hk.2) (.slice Ao48 t216.length co48)) (fun _ h_ => h_.1))) hb); have n3_ := Aside0.mk (Kd.R_below (by (with_reducible repeat (first | apply Kd.R_alloc | apply Kd.R_drewN | apply Kd.R_drew)); exact (Kd.R_mono (Kd.R_far (p := ⟨gb221, 4, none⟩) (Kd.R_far (p := ⟨gb221, 3, none⟩) (Kd.R_far (p := ⟨gb221, 2, none⟩) (Kd.R_far (p := ⟨gb221, 1, none⟩) (Kd.R_far (p := ⟨gb221, 0, none⟩) (Kd.R_types HO202.out BK221.out (by decide)) (fun _ hk => hk.2) (.int .i64 t206)) (fun _ hk => hk.2) (.slice Ao45 t207.length co45)) (fun _ hk => hk.2) (.slice Ao46 t210.length co46)) (fun _ hk => hk.2) (.slice Ao47 t213.length co47)) (fun _ hk => hk.2) (.slice Ao48 t216.length co48)) (fun _ h_ => h_.1))) hb); have n4_ := Aside0.mk (Kd.R_below (by (with_reducible repeat (first | apply Kd.R_alloc | apply Kd.R_drewN | apply Kd.R_drew)); exact (Kd.R_mono (Kd.R_far (p := ⟨gb221, 4, none⟩) (Kd.R_far (p := ⟨gb221, 3, none⟩) (Kd.R_far (p := ⟨gb221, 2, none⟩) (Kd.R_far (p := ⟨gb221, 1, none⟩) (Kd.R_far (p := ⟨gb221, 0, none⟩) (Kd.R_types HO209.out BK221.out (by decide)) (fun _ hk => hk.2) (.int .i64 t206)) (fun _ hk => hk.2) (.slice Ao45 t207.length co45)) (fun _ hk => hk.2) (.slice Ao46 t210.length co46)) (fun _ hk => hk.2) (.slice Ao47 t213.length co47)) (fun _ hk => hk.2) (.slice Ao48 t216.length co48)) (fun _ h_ => h_.1))) hb); have n5_ := Aside0.mk (Kd.R_below (by (with_reducible repeat (first | apply Kd.R_alloc | apply Kd.R_drewN | apply Kd.R_drew)); exact (Kd.R_mono (Kd.R_far (p := ⟨gb221, 4, none⟩) (Kd.R_far (p := ⟨gb221, 3, none⟩) (Kd.R_far (p := ⟨gb221, 2, none⟩) (Kd.R_far (p := ⟨gb221, 1, none⟩) (Kd.R_far (p := ⟨gb221, 0, none⟩) (Kd.R_types HO212.out BK221.out (by decide)) (fun _ hk => hk.2) (.int .i64 t206)) (fun _ hk => hk.2) (.slice Ao45 t207.length co45)) (fun _ hk => hk.2) (.slice Ao46 t210.length co46)) (fun _ hk => hk.2) (.slice Ao47 t213.length co47)) (fun _ hk => hk.2) (.slice Ao48 t216.length co48)) (fun _ h_ => h_.1))) hb); have n6_ := Aside0.mk (Kd.R_below (by (with_reducible repeat (first | apply Kd.R_alloc | apply Kd.R_drewN | apply Kd.R_drew)); exact (Kd.R_mono (Kd.R_far (p := ⟨gb221, 4, none⟩) (Kd.R_far (p := ⟨gb221, 3, none⟩) (Kd.R_far (p := ⟨gb221, 2, none⟩) (Kd.R_far (p := ⟨gb221, 1, none⟩) (Kd.R_far (p := ⟨gb221, 0, none⟩) (Kd.R_types HO215.out BK221.out (by decide)) (fun _ hk => hk.2) (.int .i64 t206)) (fun _ hk => hk.2) (.slice Ao45 t207.length co45)) (fun _ hk => hk.2) (.slice Ao46 t210.length co46)) (fun _ hk => hk.2) (.slice Ao47 t213.length co47)) (fun _ hk => hk.2) (.slice Ao48 t216.length co48)) (fun _ h_ => h_.1))) hb); have n7_ := Aside0.mk (Kd.R_below (by (with_reducible repeat (first | apply Kd.R_alloc | apply Kd.R_drewN | apply Kd.R_drew)); exact (Kd.R_mono (Kd.R_far (p := ⟨gb221, 4, none⟩) (Kd.R_far (p := ⟨gb221, 3, none⟩) (Kd.R_far (p := ⟨gb221, 2, none⟩) (Kd.R_far (p := ⟨gb221, 1, none⟩) (Kd.R_far (p := ⟨gb221, 0, none⟩) (Kd.R_types HO218.out BK221.out (by decide)) (fun _ hk => hk.2) (.int .i64 t206)) (fun _ hk => hk.2) (.slice Ao45 t207.length co45)) (fun _ hk => hk.2) (.slice Ao46 t210.length co46)) (fun _ hk => hk.2) (.slice Ao47 t213.length co47)) (fun _ hk => hk.2) (.slice Ao48 t216.length co48)) (fun _ h_ => h_.1))) hb); have n8_ := Aside0.mk (Kd.R_lower ho0 (below_size (by repeat (first | (with_reducible first | exact HB.out | apply below_alloc | apply pw_below_drewN | apply below_drew1 | refine below_set ?_ GE186.out | refine below_set ?_ GE205.out | refine below_set ?_ GE221.out) | exact HB.out)))); have n9_ := Aside0.mk (blk_below (g := gb186) (o := .cells #[.int .i64 a0_0, .slice A0_1 l0_1.length c0_1, .slice A0_2 l0_2.length c0_2, .slice A0_3 l0_3.length c0_3, .slice A0_4 l0_4.length c0_4] 26 (0, 0)) (by (with_reducible repeat (first | refine blk_drewN ?_ _ | refine blk_drew ?_ | refine blk_alloc ?_ _)); refine blk_far ?_ NB186_221.out _; (with_reducible repeat (first | refine blk_drewN ?_ _ | refine blk_drew ?_ | refine blk_alloc ?_ _)); refine blk_far ?_ NB186_221.out _; (with_reducible repeat (first | refine blk_drewN ?_ _ | refine blk_drew ?_ | refine blk_alloc ?_ _)); refine blk_far ?_ NB186_221.out _; (with_reducible repeat (first | refine blk_drewN ?_ _ | refine blk_drew ?_ | refine blk_alloc ?_ _)); refine blk_far ?_ NB186_221.out _; (with_reducible repeat (first | refine blk_drewN ?_ _ | refine blk_drew ?_ | refine blk_alloc ?_ _)); refine blk_far ?_ NB186_221.out _; (with_reducible repeat (first | refine blk_drewN ?_ _ | refine blk_drew ?_ | refine blk_alloc ?_ _)); exact BK186.out) hb); have n10_ := Aside0.mk (blk_below (g := gb205) (o := .cells #[.int .i64 t190, .slice Ao36 t191.length co36, .slice Ao37 t194.length co37, .slice Ao38 t197.length co38, .slice Ao39 t200.length co39] 26 (0, 0)) (by (with_reducible repeat (first | refine blk_drewN ?_ _ | refine blk_drew ?_ | refine blk_alloc ?_ _)); refine blk_far ?_ NB205_221.out _; (with_reducible repeat (first | refine blk_drewN ?_ _ | refine blk_drew ?_ | refine blk_alloc ?_ _)); refine blk_far ?_ NB205_221.out _; (with_reducible repeat (first | refine blk_drewN ?_ _ | refine blk_drew ?_ | refine blk_alloc ?_ _)); refine blk_far ?_ NB205_221.out _; (with_reducible repeat (first | refine blk_drewN ?_ _ | refine blk_drew ?_ | refine blk_alloc ?_ _)); refine blk_far ?_ NB205_221.out _; (with_reducible repeat (first | refine blk_drewN ?_ _ | refine blk_drew ?_ | refine blk_alloc ?_ _)); refine blk_far ?_ NB205_221.out _; (with_reducible repeat (first | refine blk_drewN ?_ _ | refine blk_drew ?_ | refine blk_alloc ?_ _)); exact BK205.out) hb); have n11_ := Aside0.mk (blk_below (g := gb221) (o := .cells #[.int .i64 t206, .slice Ao45 t207.length co45, .slice Ao46 t210.length co46, .slice Ao47 t213.length co47, .slice Ao48 t216.length co48] 26 (0, 0)) (by (with_reducible repeat (first | refine blk_drewN ?_ _ | refine blk_drew ?_ | refine blk_alloc ?_ _)); refine blk_put (cs := #[.int .i64 t206, .slice Ao45 t207.length co45, .slice Ao46 t210.length co46, .slice Ao47 t213.length co47, .slice none 0 0]) ?_ 4 _ rfl; (with_reducible repeat (first | refine blk_drewN ?_ _ | refine blk_drew ?_ | refine blk_alloc ?_ _)); refine blk_put (cs := #[.int .i64 t206, .slice Ao45 t207.length co45, .slice Ao46 t210.length co46, .slice none 0 0, .slice none 0 0]) ?_ 3 _ rfl; (with_reducible repeat (first | refine blk_drewN ?_ _ | refine blk_drew ?_ | refine blk_alloc ?_ _)); refine blk_put (cs := #[.int .i64 t206, .slice Ao45 t207.length co45, .slice none 0 0, .slice none 0 0, .slice none 0 0]) ?_ 2 _ rfl; (with_reducible repeat (first | refine blk_drewN ?_ _ | refine blk_drew ?_ | refine blk_alloc ?_ _)); refine blk_put (cs := #[.int .i64 t206, .slice none 0 0, .slice none 0 0, .slice none 0 0, .slice none 0 0]) ?_ 1 _ rfl; (with_reducible repeat (first | refine blk_drewN ?_ _ | refine blk_drew ?_ | refine blk_alloc ?_ _)); refine blk_put (cs := #[.int .i64 0, .slice none 0 0, .slice none 0 0, .slice none 0 0, .slice none 0 0]) ?_ 0 _ rfl; (with_reducible repeat (first | refine blk_drewN ?_ _ | refine blk_drew ?_ | refine blk_alloc ?_ _)); exact BK221.out) hb); have n12_ := Aside0.mk (below_step (by repeat (first | (with_reducible first | exact HB.out | apply below_alloc | apply pw_below_drewN | apply below_drew1 | refine below_set ?_ GE186.out | refine below_set ?_ GE205.out | refine below_set ?_ GE221.out) | exact HB.out)) hb); clear HO193; clear HO196; clear HO199; clear HO202; clear HO209; clear HO212; clear HO215; clear HO218; clear BK186; clear BK205; clear BK221; clear HB; have HO193 := n0_; have HO196 := n1_; have HO199 := n2_; have HO202 := n3_; have HO209 := n4_; have HO212 := n5_; have HO215 := n6_; have HO218 := n7_; have HO224 := n8_; have BK186 := n9_; have BK205 := n10_; have BK221 := n11_; have HB := n12_; clear n0_ n1_ n2_ n3_ n4_ n5_ n6_ n7_ n8_ n9_ n10_ n11_ n12_; (try clear hb); (try clear hb2); (try clear hk); (try clear hi); (try clear ho0); have hcz51_0 : w50.cell? ⟨gb205, 0, none⟩ = some (.int .i64 t190) := (blk_cell BK205.out 0).trans rfl; have hcz51_1 : w50.cell? ⟨gb205, 1, none⟩ = some (.slice Ao36 t191.length co36) := (blk_cell BK205.out 1).trans rfl; have hcz51_2 : w50.cell? ⟨gb205, 2, none⟩ = some (.slice Ao37 t194.length co37) := (blk_cell BK205.out 2).trans rfl; have hcz51_3 : w50.cell? ⟨gb205, 3, none⟩ = some (.slice Ao38 t197.length co38) := (blk_cell BK205.out 3).trans rfl; have hcz51_4 : w50.cell? ⟨gb205, 4, none⟩ = some (.slice Ao39 t200.length co39) := (blk_cell BK205.out 4).trans rfl; have hfz51_0 := blk_frozen BK205.out 0; have hfz51_1 := blk_frozen BK205.out 1; have hfz51_2 := blk_frozen BK205.out 2; have hfz51_3 := blk_frozen BK205.out 3; have hfz51_4 := blk_frozen BK205.out 4) | ((with_reducible refine gate_callee (f := 14) rfl ?_); refine goesL_ (some 73) rfl rfl Try.func14 (by kernel_rfl) rfl #[.agg #[.int .i64 t190, .slice Ao36 t191.length co36, .slice Ao37 t194.length co37, .slice Ao38 t197.length co38, .slice Ao39 t200.length co39], .slice A3 l3.length c3, .slice A4 l4.length c4] rfl (by (try simp only [List.map_toArray, List.map_cons, List.map_nil]); first | done | rfl | (simp only [List.length_drop, List.length_take]; rfl)) ?_; (with_reducible refine (values_All.calls t190 _ _ t191 _ _ t194 _ _ t197 _ _ t200 _ _ l3 _ _ l4 t226 t229 _ ?side1 ?side2 ?side3 ?side4 ?side5 ?side6 ?side7 ?side8 ?side9 ?side10 ?side11 ?side12 A29.out).mono ?_); (case side1 => repeat (first | exact (Kd.R_reads' HO193.out).2.2 | (with_reducible refine Kd.C_alloc ?_ _) | (with_reducible refine Kd.C_drewN ?_ _) | (with_reducible refine Kd.C_drew ?_))); (case side2 => exact (Kd.R_reads' HO193.out).2.1); (case side3 => repeat (first | exact (Kd.R_reads' HO196.out).2.2 | (with_reducible refine Kd.C_alloc ?_ _) | (with_reducible refine Kd.C_drewN ?_ _) | (with_reducible refine Kd.C_drew ?_))); (case side4 => exact (Kd.R_reads' HO196.out).2.1); (case side5 => repeat (first | exact (Kd.R_reads' HO199.out).2.2 | (with_reducible refine Kd.C_alloc ?_ _) | (with_reducible refine Kd.C_drewN ?_ _) | (with_reducible refine Kd.C_drew ?_))); (case side6 => exact (Kd.R_reads' HO199.out).2.1); (case side7 => repeat (first | exact (Kd.R_reads' HO202.out).2.2 | (with_reducible refine Kd.C_alloc ?_ _) | (with_reducible refine Kd.C_drewN ?_ _) | (with_reducible refine Kd.C_drew ?_))); (case side8 => exact (Kd.R_reads' HO202.out).2.1); (case side9 => repeat (first | exact (Kd.C_below HR3.out HB.out) | (with_reducible refine Kd.C_alloc ?_ _) | (with_reducible refine Kd.C_drewN ?_ _) | (with_reducible refine Kd.C_drew ?_))); (case side10 => exact HC3.out); (case side11 => repeat (first | exact (Kd.C_below HR4.out HB.out) | (with_reducible refine Kd.C_alloc ?_ _) | (with_reducible refine Kd.C_drewN ?_ _) | (with_reducible refine Kd.C_drew ?_))); (case side12 => exact HC4.out); rintro e w52 ⟨v227, rfl, ho0, hb⟩; refine ⟨_, rfl, ?_⟩; have n0_ := Aside0.mk (Kd.R_below (by (with_reducible repeat (first | apply Kd.R_alloc | apply Kd.R_drewN | apply Kd.R_drew)); exact HO193.out) hb); have n1_ := Aside0.mk (Kd.R_below (by (with_reducible repeat (first | apply Kd.R_alloc | apply Kd.R_drewN | apply Kd.R_drew)); exact HO196.out) hb); have n2_ := Aside0.mk (Kd.R_below (by (with_reducible repeat (first | apply Kd.R_alloc | apply Kd.R_drewN | apply Kd.R_drew)); exact HO199.out) hb); have n3_ := Aside0.mk (Kd.R_below (by (with_reducible repeat (first | apply Kd.R_alloc | apply Kd.R_drewN | apply Kd.R_drew)); exact HO202.out) hb); have n4_ := Aside0.mk (Kd.R_below (by (with_reducible repeat (first | apply Kd.R_alloc | apply Kd.R_drewN | apply Kd.R_drew)); exact HO209.out) hb); have n5_ := Aside0.mk (Kd.R_below (by (with_reducible repeat (first | apply Kd.R_alloc | apply Kd.R_drewN | apply Kd.R_drew)); exact HO212.out) hb); have n6_ := Aside0.mk (Kd.R_below (by (with_reducible repeat (first | apply Kd.R_alloc | apply Kd.R_drewN | apply Kd.R_drew)); exact HO215.out) hb); have n7_ := Aside0.mk (Kd.R_below (by (with_reducible repeat (first | apply Kd.R_alloc | apply Kd.R_drewN | apply Kd.R_drew)); exact HO218.out) hb); have n8_ := Aside0.mk (Kd.R_elder' (by (with_reducible repeat (first | apply Kd.R_alloc | apply Kd.R_drewN | apply Kd.R_drew)); exact HO224.out) (Kd.R_base ho0) hb); have n9_ := Aside0.mk (Kd.R_lower (Kd.R_new' ho0 (Kd.R_lt (by (with_reducible repeat (first | apply Kd.R_alloc | apply Kd.R_drewN | apply Kd.R_drew)); exact HO224.out))) (below_size (by repeat (first | (with_reducible first | exact HB.out | apply below_alloc | apply pw_below_drewN | apply below_drew1 | refine below_set ?_ GE186.out | refine below_set ?_ GE205.out | refine below_set ?_ GE221.out) | exact HB.out)))); have n10_ := Aside0.mk (blk_below (g := gb186) (o := .cells #[.int .i64 a0_0, .slice A0_1 l0_1.length c0_1, .slice A0_2 l0_2.length c0_2, .slice A0_3 l0_3.length c0_3, .slice A0_4 l0_4.length c0_4] 26 (0, 0)) (by (with_reducible repeat (first | refine blk_drewN ?_ _ | refine blk_drew ?_ | refine blk_alloc ?_ _)); exact BK186.out) hb); have n11_ := Aside0.mk (blk_below (g := gb205) (o := .cells #[.int .i64 t190, .slice Ao36 t191.length co36, .slice Ao37 t194.length co37, .slice Ao38 t197.length co38, .slice Ao39 t200.length co39] 26 (0, 0)) (by (with_reducible repeat (first | refine blk_drewN ?_ _ | refine blk_drew ?_ | refine blk_alloc ?_ _)); exact BK205.out) hb); have n12_ := Aside0.mk (blk_below (g := gb221) (o := .cells #[.int .i64 t206, .slice Ao45 t207.length co45, .slice Ao46 t210.length co46, .slice Ao47 t213.length co47, .slice Ao48 t216.length co48] 26 (0, 0)) (by (with_reducible repeat (first | refine blk_drewN ?_ _ | refine blk_drew ?_ | refine blk_alloc ?_ _)); exact BK221.out) hb); have n13_ := Aside0.mk (below_step (by repeat (first | (with_reducible first | exact HB.out | apply below_alloc | apply pw_below_drewN | apply below_drew1 | refine below_set ?_ GE186.out | refine below_set ?_ GE205.out | refine below_set ?_ GE221.out) | exact HB.out)) hb); clear HO193; clear HO196; clear HO199; clear HO202; clear HO209; clear HO212; clear HO215; clear HO218; clear HO224; clear BK186; clear BK205; clear BK221; clear HB; have HO193 := n0_; have HO196 := n1_; have HO199 := n2_; have HO202 := n3_; have HO209 := n4_; have HO212 := n5_; have HO215 := n6_; have HO218 := n7_; have HO224 := n8_; have HO228 := n9_; have BK186 := n10_; have BK205 := n11_; have BK221 := n12_; have HB := n13_; clear n0_ n1_ n2_ n3_ n4_ n5_ n6_ n7_ n8_ n9_ n10_ n11_ n12_ n13_; (try clear hb); (try clear hb2); (try clear hk); (try clear hi); (try clear ho0)))
          (try simp only [Act.put, List.setIfInBounds_toArray, List.set_cons_zero, List.set_cons_succ])
          go_cut [120] (fun v120 wc => ∃ (kq : Nat) (x120_29 : Bool), v120 = .bool x120_29 ∧ Aside0 (spiritlevellaw26_HashGate.j1 kq a1 a2 t187 t203 t222 t226 x120_29 = some r) ∧ Aside0 (kq ≤ kj6) ∧ Aside0 (Kd.R Kd.bool 4 wc w.heap.size (fun k_ => some k_ ≠ (v227 : Value).ownBlock) v223 t222) ∧ Aside0 (Kd.R Kd.bool 4 wc w.heap.size (fun k_ => some k_ ≠ (v223 : Value).ownBlock) v227 t226) ∧ Aside0 (Kd.R k86 86 wc w.heap.size (fun k_ => some k_ ≠ ((.slice Ao45 t207.length co45) : Value).ownBlock) (.slice Ao36 t191.length co36) t191) ∧ Aside0 (Kd.R k67 67 wc w.heap.size (fun k_ => some k_ ≠ ((.slice Ao46 t210.length co46) : Value).ownBlock) (.slice Ao37 t194.length co37) t194) ∧ Aside0 (Kd.R (Kd.int .i64) 3 wc w.heap.size (fun k_ => some k_ ≠ ((.slice Ao39 t200.length co39) : Value).ownBlock ∧ some k_ ≠ ((.slice Ao47 t213.length co47) : Value).ownBlock ∧ some k_ ≠ ((.slice Ao48 t216.length co48) : Value).ownBlock) (.slice Ao38 t197.length co38) t197) ∧ Aside0 (Kd.R (Kd.int .i64) 3 wc w.heap.size (fun k_ => some k_ ≠ ((.slice Ao38 t197.length co38) : Value).ownBlock ∧ some k_ ≠ ((.slice Ao47 t213.length co47) : Value).ownBlock ∧ some k_ ≠ ((.slice Ao48 t216.length co48) : Value).ownBlock) (.slice Ao39 t200.length co39) t200) ∧ Aside0 (Kd.R k86 86 wc w.heap.size (fun k_ => some k_ ≠ ((.slice Ao36 t191.length co36) : Value).ownBlock) (.slice Ao45 t207.length co45) t207) ∧ Aside0 (Kd.R k67 67 wc w.heap.size (fun k_ => some k_ ≠ ((.slice Ao37 t194.length co37) : Value).ownBlock) (.slice Ao46 t210.length co46) t210) ∧ Aside0 (Kd.R (Kd.int .i64) 3 wc w.heap.size (fun k_ => some k_ ≠ ((.slice Ao38 t197.length co38) : Value).ownBlock ∧ some k_ ≠ ((.slice Ao39 t200.length co39) : Value).ownBlock ∧ some k_ ≠ ((.slice Ao48 t216.length co48) : Value).ownBlock) (.slice Ao47 t213.length co47) t213) ∧ Aside0 (Kd.R (Kd.int .i64) 3 wc w.heap.size (fun k_ => some k_ ≠ ((.slice Ao38 t197.length co38) : Value).ownBlock ∧ some k_ ≠ ((.slice Ao39 t200.length co39) : Value).ownBlock ∧ some k_ ≠ ((.slice Ao47 t213.length co47) : Value).ownBlock) (.slice Ao48 t216.length co48) t216) ∧ Aside0 (wc.heap[gb186]? = some (.cells #[.int .i64 a0_0, (.slice A0_1 l0_1.length c0_1), (.slice A0_2 l0_2.length c0_2), (.slice A0_3 l0_3.length c0_3), (.slice A0_4 l0_4.length c0_4)] 26 (0, 0))) ∧ Aside0 (wc.heap[gb205]? = some (.cells #[.int .i64 t190, (.slice Ao36 t191.length co36), (.slice Ao37 t194.length co37), (.slice Ao38 t197.length co38), (.slice Ao39 t200.length co39)] 26 (0, 0))) ∧ Aside0 (wc.heap[gb221]? = some (.cells #[.int .i64 t206, (.slice Ao45 t207.length co45), (.slice Ao46 t210.length co46), (.slice Ao47 t213.length co47), (.slice Ao48 t216.length co48)] 26 (0, 0))) ∧ Aside0 (Below w.heap.size w wc))
          case first =>
            have H := HC30.out
            clear HC30
            by_cases c53 : t220 = 0
            · rw [if_pos c53] at H
              have c53b0 : (t220 == 0) = true := beq_iff_eq.mpr c53
              have c53b1 : (t220 != 0) = false := bne_eq_false_iff_eq.mpr c53
              clear c53
              (first | rw [c53b0] | (simp only [i64_w, i32_w]; rw [c53b0]) | skip)
              by_cases c54 : t219 = t203
              · rw [if_pos c54] at H
                have c54b0 : (t219 == t203) = true := beq_iff_eq.mpr c54
                have c54b1 : (t219 != t203) = false := bne_eq_false_iff_eq.mpr c54
                clear c54
                replace H := Option.bind_eq_some_iff.mp H
                obtain ⟨t230, A550, H⟩ := H
                replace H : (if t230 = true then (if t225 = 0 then (if t229 = 0 then (if (t226.length : Int) < (t222.length : Int) then (spiritlevellaw26_HashGate.j1 kj6 a1 a2 t187 t203 t222 t226 true) else (if (t226.length : Int) > (wrap64 ((t222.length : Int) + 1)) then (spiritlevellaw26_HashGate.j1 kj6 a1 a2 t187 t203 t222 t226 true) else (if 0 ≤ (t222.length : Int) then (if (t222.length : Int) ≤ (t226.length : Int) then ((spiritlevelref04_Same.f kj6 (t226.take ((t222.length : Int) : Int).toNat) t222).bind fun t235 => (spiritlevellaw26_HashGate.j1 kj6 a1 a2 t187 t203 t222 t226 (!t235))) else (none)) else (none)))) else (spiritlevellaw26_HashGate.j1 kj6 a1 a2 t187 t203 t222 t226 true)) else (spiritlevellaw26_HashGate.j1 kj6 a1 a2 t187 t203 t222 t226 true)) else (spiritlevellaw26_HashGate.j1 kj6 a1 a2 t187 t203 t222 t226 true)) = some r := H
                have A55 := Aside0.mk A550
                clear A550
                by_cases c56 : t230 = true
                · subst c56
                  have H1 : (if t225 = 0 then (if t229 = 0 then (if (t226.length : Int) < (t222.length : Int) then (spiritlevellaw26_HashGate.j1 kj6 a1 a2 t187 t203 t222 t226 true) else (if (t226.length : Int) > (wrap64 ((t222.length : Int) + 1)) then (spiritlevellaw26_HashGate.j1 kj6 a1 a2 t187 t203 t222 t226 true) else (if 0 ≤ (t222.length : Int) then (if (t222.length : Int) ≤ (t226.length : Int) then ((spiritlevelref04_Same.f kj6 (t226.take ((t222.length : Int) : Int).toNat) t222).bind fun t235 => (spiritlevellaw26_HashGate.j1 kj6 a1 a2 t187 t203 t222 t226 (!t235))) else (none)) else (none)))) else (spiritlevellaw26_HashGate.j1 kj6 a1 a2 t187 t203 t222 t226 true)) else (spiritlevellaw26_HashGate.j1 kj6 a1 a2 t187 t203 t222 t226 true)) = some r := by rw [if_pos rfl] at H; exact H
                  clear H
                  have H := H1
                  clear H1
                  by_cases c57 : t225 = 0
                  · rw [if_pos c57] at H
                    have c57b0 : (t225 == 0) = true := beq_iff_eq.mpr c57
                    have c57b1 : (t225 != 0) = false := bne_eq_false_iff_eq.mpr c57
                    clear c57
                    by_cases c58 : t229 = 0
                    · rw [if_pos c58] at H
                      have c58b0 : (t229 == 0) = true := beq_iff_eq.mpr c58
                      have c58b1 : (t229 != 0) = false := bne_eq_false_iff_eq.mpr c58
                      clear c58
                      by_cases c59 : (t226.length : Int) < (t222.length : Int)
                      · rw [if_pos c59] at H
                        have c59b0 : decide ((t226.length : Int) < (t222.length : Int)) = true := decide_eq_true c59
                        have c59b1 : decide (t226.length < t222.length) = true := decide_eq_true (Int.ofNat_lt.mp c59)
                        clear c59
                        have H' := Aside0.mk H
                        clear H
                        have hnb60 := NB205_186.out
                        have hnc60 := NB186_205.out
                        have hnb61 := NB205_221.out
                        have hnc61 := NB221_205.out
                        have hcz62_0 : w52.cell? ⟨gb205, 0, none⟩ = some (.int .i64 t190) := (blk_cell BK205.out 0).trans rfl
                        have hcz62_1 : w52.cell? ⟨gb205, 1, none⟩ = some (.slice Ao36 t191.length co36) := (blk_cell BK205.out 1).trans rfl
                        have hcz62_2 : w52.cell? ⟨gb205, 2, none⟩ = some (.slice Ao37 t194.length co37) := (blk_cell BK205.out 2).trans rfl
                        have hcz62_3 : w52.cell? ⟨gb205, 3, none⟩ = some (.slice Ao38 t197.length co38) := (blk_cell BK205.out 3).trans rfl
                        have hcz62_4 : w52.cell? ⟨gb205, 4, none⟩ = some (.slice Ao39 t200.length co39) := (blk_cell BK205.out 4).trans rfl
                        have hfz62_0 := blk_frozen BK205.out 0
                        have hfz62_1 := blk_frozen BK205.out 1
                        have hfz62_2 := blk_frozen BK205.out 2
                        have hfz62_3 := blk_frozen BK205.out 3
                        have hfz62_4 := blk_frozen BK205.out 4
                        have hnb63 := NB221_186.out
                        have hnc63 := NB186_221.out
                        have hcz64_0 : w52.cell? ⟨gb221, 0, none⟩ = some (.int .i64 t206) := (blk_cell BK221.out 0).trans rfl
                        have hcz64_1 : w52.cell? ⟨gb221, 1, none⟩ = some (.slice Ao45 t207.length co45) := (blk_cell BK221.out 1).trans rfl
                        have hcz64_2 : w52.cell? ⟨gb221, 2, none⟩ = some (.slice Ao46 t210.length co46) := (blk_cell BK221.out 2).trans rfl
                        have hcz64_3 : w52.cell? ⟨gb221, 3, none⟩ = some (.slice Ao47 t213.length co47) := (blk_cell BK221.out 3).trans rfl
                        have hcz64_4 : w52.cell? ⟨gb221, 4, none⟩ = some (.slice Ao48 t216.length co48) := (blk_cell BK221.out 4).trans rfl
                        have hfz64_0 := blk_frozen BK221.out 0
                        have hfz64_1 := blk_frozen BK221.out 1
                        have hfz64_2 := blk_frozen BK221.out 2
                        have hfz64_3 := blk_frozen BK221.out 3
                        have hfz64_4 := blk_frozen BK221.out 4
                        go_wp2_with (first | (go_at_call 11; (with_reducible refine (spiritlevelref02_Same.calls kj6 t190 _ _ t191 _ _ t194 _ _ t197 _ _ t200 t206 _ _ t207 _ _ t210 _ _ t213 _ _ t216 true _ ?side1 ?side2 ?side3 ?side4 ?side5 ?side6 ?side7 ?side8 ?side9 ?side10 ?side11 ?side12 ?side13 ?side14 ?side15 ?side16 A55.out).mono ?_); (case side1 => repeat (first | exact (Kd.R_reads' HO193.out).2.2 | (with_reducible refine Kd.C_alloc ?_ _) | (with_reducible refine Kd.C_drewN ?_ _) | (with_reducible refine Kd.C_drew ?_))); (case side2 => exact (Kd.R_reads' HO193.out).2.1); (case side3 => repeat (first | exact (Kd.R_reads' HO196.out).2.2 | (with_reducible refine Kd.C_alloc ?_ _) | (with_reducible refine Kd.C_drewN ?_ _) | (with_reducible refine Kd.C_drew ?_))); (case side4 => exact (Kd.R_reads' HO196.out).2.1); (case side5 => repeat (first | exact (Kd.R_reads' HO199.out).2.2 | (with_reducible refine Kd.C_alloc ?_ _) | (with_reducible refine Kd.C_drewN ?_ _) | (with_reducible refine Kd.C_drew ?_))); (case side6 => exact (Kd.R_reads' HO199.out).2.1); (case side7 => repeat (first | exact (Kd.R_reads' HO202.out).2.2 | (with_reducible refine Kd.C_alloc ?_ _) | (with_reducible refine Kd.C_drewN ?_ _) | (with_reducible refine Kd.C_drew ?_))); (case side8 => exact (Kd.R_reads' HO202.out).2.1); (case side9 => repeat (first | exact (Kd.R_reads' HO209.out).2.2 | (with_reducible refine Kd.C_alloc ?_ _) | (with_reducible refine Kd.C_drewN ?_ _) | (with_reducible refine Kd.C_drew ?_))); (case side10 => exact (Kd.R_reads' HO209.out).2.1); (case side11 => repeat (first | exact (Kd.R_reads' HO212.out).2.2 | (with_reducible refine Kd.C_alloc ?_ _) | (with_reducible refine Kd.C_drewN ?_ _) | (with_reducible refine Kd.C_drew ?_))); (case side12 => exact (Kd.R_reads' HO212.out).2.1); (case side13 => repeat (first | exact (Kd.R_reads' HO215.out).2.2 | (with_reducible refine Kd.C_alloc ?_ _) | (with_reducible refine Kd.C_drewN ?_ _) | (with_reducible refine Kd.C_drew ?_))); (case side14 => exact (Kd.R_reads' HO215.out).2.1); (case side15 => repeat (first | exact (Kd.R_reads' HO218.out).2.2 | (with_reducible refine Kd.C_alloc ?_ _) | (with_reducible refine Kd.C_drewN ?_ _) | (with_reducible refine Kd.C_drew ?_))); (case side16 => exact (Kd.R_reads' HO218.out).2.1); rintro e w65 ⟨rfl, hb⟩; have n0_ := Aside0.mk (Kd.R_below (by (with_reducible repeat (first | apply Kd.R_alloc | apply Kd.R_drewN | apply Kd.R_drew)); exact HO193.out) hb); have n1_ := Aside0.mk (Kd.R_below (by (with_reducible repeat (first | apply Kd.R_alloc | apply Kd.R_drewN | apply Kd.R_drew)); exact HO196.out) hb); have n2_ := Aside0.mk (Kd.R_below (by (with_reducible repeat (first | apply Kd.R_alloc | apply Kd.R_drewN | apply Kd.R_drew)); exact HO199.out) hb); have n3_ := Aside0.mk (Kd.R_below (by (with_reducible repeat (first | apply Kd.R_alloc | apply Kd.R_drewN | apply Kd.R_drew)); exact HO202.out) hb); have n4_ := Aside0.mk (Kd.R_below (by (with_reducible repeat (first | apply Kd.R_alloc | apply Kd.R_drewN | apply Kd.R_drew)); exact HO209.out) hb); have n5_ := Aside0.mk (Kd.R_below (by (with_reducible repeat (first | apply Kd.R_alloc | apply Kd.R_drewN | apply Kd.R_drew)); exact HO212.out) hb); have n6_ := Aside0.mk (Kd.R_below (by (with_reducible repeat (first | apply Kd.R_alloc | apply Kd.R_drewN | apply Kd.R_drew)); exact HO215.out) hb); have n7_ := Aside0.mk (Kd.R_below (by (with_reducible repeat (first | apply Kd.R_alloc | apply Kd.R_drewN | apply Kd.R_drew)); exact HO218.out) hb); have n8_ := Aside0.mk (Kd.R_below (by (with_reducible repeat (first | apply Kd.R_alloc | apply Kd.R_drewN | apply Kd.R_drew)); exact HO224.out) hb); have n9_ := Aside0.mk (Kd.R_below (by (with_reducible repeat (first | apply Kd.R_alloc | apply Kd.R_drewN | apply Kd.R_drew)); exact HO228.out) hb); have n10_ := Aside0.mk (blk_below (g := gb186) (o := .cells #[.int .i64 a0_0, .slice A0_1 l0_1.length c0_1, .slice A0_2 l0_2.length c0_2, .slice A0_3 l0_3.length c0_3, .slice A0_4 l0_4.length c0_4] 26 (0, 0)) (by (with_reducible repeat (first | refine blk_drewN ?_ _ | refine blk_drew ?_ | refine blk_alloc ?_ _)); exact BK186.out) hb); have n11_ := Aside0.mk (blk_below (g := gb205) (o := .cells #[.int .i64 t190, .slice Ao36 t191.length co36, .slice Ao37 t194.length co37, .slice Ao38 t197.length co38, .slice Ao39 t200.length co39] 26 (0, 0)) (by (with_reducible repeat (first | refine blk_drewN ?_ _ | refine blk_drew ?_ | refine blk_alloc ?_ _)); exact BK205.out) hb); have n12_ := Aside0.mk (blk_below (g := gb221) (o := .cells #[.int .i64 t206, .slice Ao45 t207.length co45, .slice Ao46 t210.length co46, .slice Ao47 t213.length co47, .slice Ao48 t216.length co48] 26 (0, 0)) (by (with_reducible repeat (first | refine blk_drewN ?_ _ | refine blk_drew ?_ | refine blk_alloc ?_ _)); exact BK221.out) hb); have n13_ := Aside0.mk (below_step (by repeat (first | (with_reducible first | exact HB.out | apply below_alloc | apply pw_below_drewN | apply below_drew1 | refine below_set ?_ GE186.out | refine below_set ?_ GE205.out | refine below_set ?_ GE221.out) | exact HB.out)) hb); clear HO193; clear HO196; clear HO199; clear HO202; clear HO209; clear HO212; clear HO215; clear HO218; clear HO224; clear HO228; clear BK186; clear BK205; clear BK221; clear HB; have HO193 := n0_; have HO196 := n1_; have HO199 := n2_; have HO202 := n3_; have HO209 := n4_; have HO212 := n5_; have HO215 := n6_; have HO218 := n7_; have HO224 := n8_; have HO228 := n9_; have BK186 := n10_; have BK205 := n11_; have BK221 := n12_; have HB := n13_; clear n0_ n1_ n2_ n3_ n4_ n5_ n6_ n7_ n8_ n9_ n10_ n11_ n12_ n13_; (try clear hb); (try clear hb2); (try clear hk); (try clear hi); obtain ⟨Ao66, co66, eo66⟩ := Kd.R_slice HO228.out; subst eo66; obtain ⟨Ao67, co67, eo67⟩ := Kd.R_slice HO224.out; subst eo67))
                        go_meet
                        case rel => exact ⟨_, (true), (by first | rfl | (simp; done) | (simp [*]; done)), H', ⟨by have := HJ6.out; first | omega | exact Nat.le_refl _⟩, ⟨by (with_reducible repeat (first | apply Kd.R_alloc | apply Kd.R_drewN | apply Kd.R_drew)); exact Kd.R_mono HO224.out (fun _ hk => hk.2)⟩, ⟨by (with_reducible repeat (first | apply Kd.R_alloc | apply Kd.R_drewN | apply Kd.R_drew)); exact Kd.R_mono HO228.out (fun _ hk => hk.2)⟩, ⟨by (with_reducible repeat (first | apply Kd.R_alloc | apply Kd.R_drewN | apply Kd.R_drew)); exact Kd.R_mono HO193.out (fun _ hk => hk.2)⟩, ⟨by (with_reducible repeat (first | apply Kd.R_alloc | apply Kd.R_drewN | apply Kd.R_drew)); exact Kd.R_mono HO196.out (fun _ hk => hk.2)⟩, ⟨by (with_reducible repeat (first | apply Kd.R_alloc | apply Kd.R_drewN | apply Kd.R_drew)); exact Kd.R_mono HO199.out (fun _ hk => ⟨hk.1.1, ⟨hk.1.2, hk.2⟩⟩)⟩, ⟨by (with_reducible repeat (first | apply Kd.R_alloc | apply Kd.R_drewN | apply Kd.R_drew)); exact Kd.R_mono HO202.out (fun _ hk => ⟨hk.1.1, ⟨hk.1.2, hk.2⟩⟩)⟩, ⟨by (with_reducible repeat (first | apply Kd.R_alloc | apply Kd.R_drewN | apply Kd.R_drew)); exact Kd.R_mono HO209.out (fun _ hk => hk.2)⟩, ⟨by (with_reducible repeat (first | apply Kd.R_alloc | apply Kd.R_drewN | apply Kd.R_drew)); exact Kd.R_mono HO212.out (fun _ hk => hk.2)⟩, ⟨by (with_reducible repeat (first | apply Kd.R_alloc | apply Kd.R_drewN | apply Kd.R_drew)); exact Kd.R_mono HO215.out (fun _ hk => ⟨hk.1.2, ⟨hk.2, hk.1.1⟩⟩)⟩, ⟨by (with_reducible repeat (first | apply Kd.R_alloc | apply Kd.R_drewN | apply Kd.R_drew)); exact Kd.R_mono HO218.out (fun _ hk => ⟨hk.1.2, ⟨hk.2, hk.1.1⟩⟩)⟩, ⟨by (with_reducible repeat (first | refine blk_drewN ?_ _ | refine blk_drew ?_ | refine blk_alloc ?_ _)); exact BK186.out⟩, ⟨by (with_reducible repeat (first | refine blk_drewN ?_ _ | refine blk_drew ?_ | refine blk_alloc ?_ _)); exact BK205.out⟩, ⟨by (with_reducible repeat (first | refine blk_drewN ?_ _ | refine blk_drew ?_ | refine blk_alloc ?_ _)); exact BK221.out⟩, ⟨by repeat (first | (with_reducible first | exact HB.out | apply below_alloc | apply pw_below_drewN | apply below_drew1 | refine below_set ?_ GE186.out | refine below_set ?_ GE205.out | refine below_set ?_ GE221.out) | exact HB.out)⟩⟩
                      · rw [if_neg c59] at H
                        have c59b0 : decide ((t226.length : Int) < (t222.length : Int)) = false := decide_eq_false c59
                        have c59b1 : decide (t226.length < t222.length) = false := decide_eq_false (fun h => c59 (Int.ofNat_lt.mpr h))
                        clear c59
                        by_cases c68 : (t226.length : Int) > (wrap64 ((t222.length : Int) + 1))
                        · rw [if_pos c68] at H
                          have c68b0 : decide ((wrap64 ((t222.length : Int) + 1)) < (t226.length : Int)) = true := decide_eq_true c68
                          clear c68
                          have H' := Aside0.mk H
                          clear H
                          have hnb69 := NB205_186.out
                          have hnc69 := NB186_205.out
                          have hnb70 := NB205_221.out
                          have hnc70 := NB221_205.out
                          have hcz71_0 : w52.cell? ⟨gb205, 0, none⟩ = some (.int .i64 t190) := (blk_cell BK205.out 0).trans rfl
                          have hcz71_1 : w52.cell? ⟨gb205, 1, none⟩ = some (.slice Ao36 t191.length co36) := (blk_cell BK205.out 1).trans rfl
                          have hcz71_2 : w52.cell? ⟨gb205, 2, none⟩ = some (.slice Ao37 t194.length co37) := (blk_cell BK205.out 2).trans rfl
                          have hcz71_3 : w52.cell? ⟨gb205, 3, none⟩ = some (.slice Ao38 t197.length co38) := (blk_cell BK205.out 3).trans rfl
                          have hcz71_4 : w52.cell? ⟨gb205, 4, none⟩ = some (.slice Ao39 t200.length co39) := (blk_cell BK205.out 4).trans rfl
                          have hfz71_0 := blk_frozen BK205.out 0
                          have hfz71_1 := blk_frozen BK205.out 1
                          have hfz71_2 := blk_frozen BK205.out 2
                          have hfz71_3 := blk_frozen BK205.out 3
                          have hfz71_4 := blk_frozen BK205.out 4
                          have hnb72 := NB221_186.out
                          have hnc72 := NB186_221.out
                          have hcz73_0 : w52.cell? ⟨gb221, 0, none⟩ = some (.int .i64 t206) := (blk_cell BK221.out 0).trans rfl
                          have hcz73_1 : w52.cell? ⟨gb221, 1, none⟩ = some (.slice Ao45 t207.length co45) := (blk_cell BK221.out 1).trans rfl
                          have hcz73_2 : w52.cell? ⟨gb221, 2, none⟩ = some (.slice Ao46 t210.length co46) := (blk_cell BK221.out 2).trans rfl
                          have hcz73_3 : w52.cell? ⟨gb221, 3, none⟩ = some (.slice Ao47 t213.length co47) := (blk_cell BK221.out 3).trans rfl
                          have hcz73_4 : w52.cell? ⟨gb221, 4, none⟩ = some (.slice Ao48 t216.length co48) := (blk_cell BK221.out 4).trans rfl
                          have hfz73_0 := blk_frozen BK221.out 0
                          have hfz73_1 := blk_frozen BK221.out 1
                          have hfz73_2 := blk_frozen BK221.out 2
                          have hfz73_3 := blk_frozen BK221.out 3
                          have hfz73_4 := blk_frozen BK221.out 4
                          go_wp2_with (first | (go_at_call 11; (with_reducible refine (spiritlevelref02_Same.calls kj6 t190 _ _ t191 _ _ t194 _ _ t197 _ _ t200 t206 _ _ t207 _ _ t210 _ _ t213 _ _ t216 true _ ?side1 ?side2 ?side3 ?side4 ?side5 ?side6 ?side7 ?side8 ?side9 ?side10 ?side11 ?side12 ?side13 ?side14 ?side15 ?side16 A55.out).mono ?_); (case side1 => repeat (first | exact (Kd.R_reads' HO193.out).2.2 | (with_reducible refine Kd.C_alloc ?_ _) | (with_reducible refine Kd.C_drewN ?_ _) | (with_reducible refine Kd.C_drew ?_))); (case side2 => exact (Kd.R_reads' HO193.out).2.1); (case side3 => repeat (first | exact (Kd.R_reads' HO196.out).2.2 | (with_reducible refine Kd.C_alloc ?_ _) | (with_reducible refine Kd.C_drewN ?_ _) | (with_reducible refine Kd.C_drew ?_))); (case side4 => exact (Kd.R_reads' HO196.out).2.1); (case side5 => repeat (first | exact (Kd.R_reads' HO199.out).2.2 | (with_reducible refine Kd.C_alloc ?_ _) | (with_reducible refine Kd.C_drewN ?_ _) | (with_reducible refine Kd.C_drew ?_))); (case side6 => exact (Kd.R_reads' HO199.out).2.1); (case side7 => repeat (first | exact (Kd.R_reads' HO202.out).2.2 | (with_reducible refine Kd.C_alloc ?_ _) | (with_reducible refine Kd.C_drewN ?_ _) | (with_reducible refine Kd.C_drew ?_))); (case side8 => exact (Kd.R_reads' HO202.out).2.1); (case side9 => repeat (first | exact (Kd.R_reads' HO209.out).2.2 | (with_reducible refine Kd.C_alloc ?_ _) | (with_reducible refine Kd.C_drewN ?_ _) | (with_reducible refine Kd.C_drew ?_))); (case side10 => exact (Kd.R_reads' HO209.out).2.1); (case side11 => repeat (first | exact (Kd.R_reads' HO212.out).2.2 | (with_reducible refine Kd.C_alloc ?_ _) | (with_reducible refine Kd.C_drewN ?_ _) | (with_reducible refine Kd.C_drew ?_))); (case side12 => exact (Kd.R_reads' HO212.out).2.1); (case side13 => repeat (first | exact (Kd.R_reads' HO215.out).2.2 | (with_reducible refine Kd.C_alloc ?_ _) | (with_reducible refine Kd.C_drewN ?_ _) | (with_reducible refine Kd.C_drew ?_))); (case side14 => exact (Kd.R_reads' HO215.out).2.1); (case side15 => repeat (first | exact (Kd.R_reads' HO218.out).2.2 | (with_reducible refine Kd.C_alloc ?_ _) | (with_reducible refine Kd.C_drewN ?_ _) | (with_reducible refine Kd.C_drew ?_))); (case side16 => exact (Kd.R_reads' HO218.out).2.1); rintro e w74 ⟨rfl, hb⟩; have n0_ := Aside0.mk (Kd.R_below (by (with_reducible repeat (first | apply Kd.R_alloc | apply Kd.R_drewN | apply Kd.R_drew)); exact HO193.out) hb); have n1_ := Aside0.mk (Kd.R_below (by (with_reducible repeat (first | apply Kd.R_alloc | apply Kd.R_drewN | apply Kd.R_drew)); exact HO196.out) hb); have n2_ := Aside0.mk (Kd.R_below (by (with_reducible repeat (first | apply Kd.R_alloc | apply Kd.R_drewN | apply Kd.R_drew)); exact HO199.out) hb); have n3_ := Aside0.mk (Kd.R_below (by (with_reducible repeat (first | apply Kd.R_alloc | apply Kd.R_drewN | apply Kd.R_drew)); exact HO202.out) hb); have n4_ := Aside0.mk (Kd.R_below (by (with_reducible repeat (first | apply Kd.R_alloc | apply Kd.R_drewN | apply Kd.R_drew)); exact HO209.out) hb); have n5_ := Aside0.mk (Kd.R_below (by (with_reducible repeat (first | apply Kd.R_alloc | apply Kd.R_drewN | apply Kd.R_drew)); exact HO212.out) hb); have n6_ := Aside0.mk (Kd.R_below (by (with_reducible repeat (first | apply Kd.R_alloc | apply Kd.R_drewN | apply Kd.R_drew)); exact HO215.out) hb); have n7_ := Aside0.mk (Kd.R_below (by (with_reducible repeat (first | apply Kd.R_alloc | apply Kd.R_drewN | apply Kd.R_drew)); exact HO218.out) hb); have n8_ := Aside0.mk (Kd.R_below (by (with_reducible repeat (first | apply Kd.R_alloc | apply Kd.R_drewN | apply Kd.R_drew)); exact HO224.out) hb); have n9_ := Aside0.mk (Kd.R_below (by (with_reducible repeat (first | apply Kd.R_alloc | apply Kd.R_drewN | apply Kd.R_drew)); exact HO228.out) hb); have n10_ := Aside0.mk (blk_below (g := gb186) (o := .cells #[.int .i64 a0_0, .slice A0_1 l0_1.length c0_1, .slice A0_2 l0_2.length c0_2, .slice A0_3 l0_3.length c0_3, .slice A0_4 l0_4.length c0_4] 26 (0, 0)) (by (with_reducible repeat (first | refine blk_drewN ?_ _ | refine blk_drew ?_ | refine blk_alloc ?_ _)); exact BK186.out) hb); have n11_ := Aside0.mk (blk_below (g := gb205) (o := .cells #[.int .i64 t190, .slice Ao36 t191.length co36, .slice Ao37 t194.length co37, .slice Ao38 t197.length co38, .slice Ao39 t200.length co39] 26 (0, 0)) (by (with_reducible repeat (first | refine blk_drewN ?_ _ | refine blk_drew ?_ | refine blk_alloc ?_ _)); exact BK205.out) hb); have n12_ := Aside0.mk (blk_below (g := gb221) (o := .cells #[.int .i64 t206, .slice Ao45 t207.length co45, .slice Ao46 t210.length co46, .slice Ao47 t213.length co47, .slice Ao48 t216.length co48] 26 (0, 0)) (by (with_reducible repeat (first | refine blk_drewN ?_ _ | refine blk_drew ?_ | refine blk_alloc ?_ _)); exact BK221.out) hb); have n13_ := Aside0.mk (below_step (by repeat (first | (with_reducible first | exact HB.out | apply below_alloc | apply pw_below_drewN | apply below_drew1 | refine below_set ?_ GE186.out | refine below_set ?_ GE205.out | refine below_set ?_ GE221.out) | exact HB.out)) hb); clear HO193; clear HO196; clear HO199; clear HO202; clear HO209; clear HO212; clear HO215; clear HO218; clear HO224; clear HO228; clear BK186; clear BK205; clear BK221; clear HB; have HO193 := n0_; have HO196 := n1_; have HO199 := n2_; have HO202 := n3_; have HO209 := n4_; have HO212 := n5_; have HO215 := n6_; have HO218 := n7_; have HO224 := n8_; have HO228 := n9_; have BK186 := n10_; have BK205 := n11_; have BK221 := n12_; have HB := n13_; clear n0_ n1_ n2_ n3_ n4_ n5_ n6_ n7_ n8_ n9_ n10_ n11_ n12_ n13_; (try clear hb); (try clear hb2); (try clear hk); (try clear hi); obtain ⟨Ao75, co75, eo75⟩ := Kd.R_slice HO228.out; subst eo75; obtain ⟨Ao76, co76, eo76⟩ := Kd.R_slice HO224.out; subst eo76))
                          go_meet
                          case rel => exact ⟨_, (true), (by first | rfl | (simp; done) | (simp [*]; done)), H', ⟨by have := HJ6.out; first | omega | exact Nat.le_refl _⟩, ⟨by (with_reducible repeat (first | apply Kd.R_alloc | apply Kd.R_drewN | apply Kd.R_drew)); exact Kd.R_mono HO224.out (fun _ hk => hk.2)⟩, ⟨by (with_reducible repeat (first | apply Kd.R_alloc | apply Kd.R_drewN | apply Kd.R_drew)); exact Kd.R_mono HO228.out (fun _ hk => hk.2)⟩, ⟨by (with_reducible repeat (first | apply Kd.R_alloc | apply Kd.R_drewN | apply Kd.R_drew)); exact Kd.R_mono HO193.out (fun _ hk => hk.2)⟩, ⟨by (with_reducible repeat (first | apply Kd.R_alloc | apply Kd.R_drewN | apply Kd.R_drew)); exact Kd.R_mono HO196.out (fun _ hk => hk.2)⟩, ⟨by (with_reducible repeat (first | apply Kd.R_alloc | apply Kd.R_drewN | apply Kd.R_drew)); exact Kd.R_mono HO199.out (fun _ hk => ⟨hk.1.1, ⟨hk.1.2, hk.2⟩⟩)⟩, ⟨by (with_reducible repeat (first | apply Kd.R_alloc | apply Kd.R_drewN | apply Kd.R_drew)); exact Kd.R_mono HO202.out (fun _ hk => ⟨hk.1.1, ⟨hk.1.2, hk.2⟩⟩)⟩, ⟨by (with_reducible repeat (first | apply Kd.R_alloc | apply Kd.R_drewN | apply Kd.R_drew)); exact Kd.R_mono HO209.out (fun _ hk => hk.2)⟩, ⟨by (with_reducible repeat (first | apply Kd.R_alloc | apply Kd.R_drewN | apply Kd.R_drew)); exact Kd.R_mono HO212.out (fun _ hk => hk.2)⟩, ⟨by (with_reducible repeat (first | apply Kd.R_alloc | apply Kd.R_drewN | apply Kd.R_drew)); exact Kd.R_mono HO215.out (fun _ hk => ⟨hk.1.2, ⟨hk.2, hk.1.1⟩⟩)⟩, ⟨by (with_reducible repeat (first | apply Kd.R_alloc | apply Kd.R_drewN | apply Kd.R_drew)); exact Kd.R_mono HO218.out (fun _ hk => ⟨hk.1.2, ⟨hk.2, hk.1.1⟩⟩)⟩, ⟨by (with_reducible repeat (first | refine blk_drewN ?_ _ | refine blk_drew ?_ | refine blk_alloc ?_ _)); exact BK186.out⟩, ⟨by (with_reducible repeat (first | refine blk_drewN ?_ _ | refine blk_drew ?_ | refine blk_alloc ?_ _)); exact BK205.out⟩, ⟨by (with_reducible repeat (first | refine blk_drewN ?_ _ | refine blk_drew ?_ | refine blk_alloc ?_ _)); exact BK221.out⟩, ⟨by repeat (first | (with_reducible first | exact HB.out | apply below_alloc | apply pw_below_drewN | apply below_drew1 | refine below_set ?_ GE186.out | refine below_set ?_ GE205.out | refine below_set ?_ GE221.out) | exact HB.out)⟩⟩
                        · rw [if_neg c68] at H
                          have c68b0 : decide ((wrap64 ((t222.length : Int) + 1)) < (t226.length : Int)) = false := decide_eq_false c68
                          clear c68
                          by_cases c77 : 0 ≤ (t222.length : Int)
                          · rw [if_pos c77] at H
                            have c77b0 := eq_true c77
                            have c77b1 : decide (0 ≤ (t222.length : Int)) = true := decide_eq_true c77
                            clear c77
                            by_cases c78 : (t222.length : Int) ≤ (t226.length : Int)
                            · rw [if_pos c78] at H
                              have c78b0 := eq_true c78
                              have c78b1 : decide ((t222.length : Int) ≤ (t226.length : Int)) = true := decide_eq_true c78
                              clear c78
                              obtain ⟨y231, hy231⟩ : ∃ y_ : List Bool, y_ = (t226.take ((t222.length : Int) : Int).toNat) := ⟨_, rfl⟩
                              replace H : ((spiritlevelref04_Same.f kj6 y231 t222).bind fun t235 => (spiritlevellaw26_HashGate.j1 kj6 a1 a2 t187 t203 t222 t226 (!t235))) = some r := by first | (rw [hy231]; with_reducible exact H) | (have H2_ := (Option.bind_some _ _).symm.trans H; rw [hy231]; with_reducible exact H2_) | (have H2_ := (Option.bind_some _ _).symm.trans H; with_reducible exact H2_) | with_reducible exact H | (rw [hy231]; exact H) | exact H
                              have Ny231 := Aside0.mk hy231
                              clear hy231
                              replace H := Option.bind_eq_some_iff.mp H
                              obtain ⟨t235, A790, H⟩ := H
                              replace H : (spiritlevellaw26_HashGate.j1 kj6 a1 a2 t187 t203 t222 t226 (!t235)) = some r := H
                              have A79 := Aside0.mk A790
                              clear A790
                              have H' := Aside0.mk H
                              clear H
                              have hnb80 := NB205_186.out
                              have hnc80 := NB186_205.out
                              have hnb81 := NB205_221.out
                              have hnc81 := NB221_205.out
                              have hcz82_0 : w52.cell? ⟨gb205, 0, none⟩ = some (.int .i64 t190) := (blk_cell BK205.out 0).trans rfl
                              have hcz82_1 : w52.cell? ⟨gb205, 1, none⟩ = some (.slice Ao36 t191.length co36) := (blk_cell BK205.out 1).trans rfl
                              have hcz82_2 : w52.cell? ⟨gb205, 2, none⟩ = some (.slice Ao37 t194.length co37) := (blk_cell BK205.out 2).trans rfl
                              have hcz82_3 : w52.cell? ⟨gb205, 3, none⟩ = some (.slice Ao38 t197.length co38) := (blk_cell BK205.out 3).trans rfl
                              have hcz82_4 : w52.cell? ⟨gb205, 4, none⟩ = some (.slice Ao39 t200.length co39) := (blk_cell BK205.out 4).trans rfl
                              have hfz82_0 := blk_frozen BK205.out 0
                              have hfz82_1 := blk_frozen BK205.out 1
                              have hfz82_2 := blk_frozen BK205.out 2
                              have hfz82_3 := blk_frozen BK205.out 3
                              have hfz82_4 := blk_frozen BK205.out 4
                              have hnb83 := NB221_186.out
                              have hnc83 := NB186_221.out
                              have hcz84_0 : w52.cell? ⟨gb221, 0, none⟩ = some (.int .i64 t206) := (blk_cell BK221.out 0).trans rfl
                              have hcz84_1 : w52.cell? ⟨gb221, 1, none⟩ = some (.slice Ao45 t207.length co45) := (blk_cell BK221.out 1).trans rfl
                              have hcz84_2 : w52.cell? ⟨gb221, 2, none⟩ = some (.slice Ao46 t210.length co46) := (blk_cell BK221.out 2).trans rfl
                              have hcz84_3 : w52.cell? ⟨gb221, 3, none⟩ = some (.slice Ao47 t213.length co47) := (blk_cell BK221.out 3).trans rfl
                              have hcz84_4 : w52.cell? ⟨gb221, 4, none⟩ = some (.slice Ao48 t216.length co48) := (blk_cell BK221.out 4).trans rfl
                              have hfz84_0 := blk_frozen BK221.out 0
                              have hfz84_1 := blk_frozen BK221.out 1
                              have hfz84_2 := blk_frozen BK221.out 2
                              have hfz84_3 := blk_frozen BK221.out 3
                              have hfz84_4 := blk_frozen BK221.out 4
                              go_wp2_with (first | (go_at_call 11; (with_reducible refine (spiritlevelref02_Same.calls kj6 t190 _ _ t191 _ _ t194 _ _ t197 _ _ t200 t206 _ _ t207 _ _ t210 _ _ t213 _ _ t216 true _ ?side1 ?side2 ?side3 ?side4 ?side5 ?side6 ?side7 ?side8 ?side9 ?side10 ?side11 ?side12 ?side13 ?side14 ?side15 ?side16 A55.out).mono ?_); (case side1 => repeat (first | exact (Kd.R_reads' HO193.out).2.2 | (with_reducible refine Kd.C_alloc ?_ _) | (with_reducible refine Kd.C_drewN ?_ _) | (with_reducible refine Kd.C_drew ?_))); (case side2 => exact (Kd.R_reads' HO193.out).2.1); (case side3 => repeat (first | exact (Kd.R_reads' HO196.out).2.2 | (with_reducible refine Kd.C_alloc ?_ _) | (with_reducible refine Kd.C_drewN ?_ _) | (with_reducible refine Kd.C_drew ?_))); (case side4 => exact (Kd.R_reads' HO196.out).2.1); (case side5 => repeat (first | exact (Kd.R_reads' HO199.out).2.2 | (with_reducible refine Kd.C_alloc ?_ _) | (with_reducible refine Kd.C_drewN ?_ _) | (with_reducible refine Kd.C_drew ?_))); (case side6 => exact (Kd.R_reads' HO199.out).2.1); (case side7 => repeat (first | exact (Kd.R_reads' HO202.out).2.2 | (with_reducible refine Kd.C_alloc ?_ _) | (with_reducible refine Kd.C_drewN ?_ _) | (with_reducible refine Kd.C_drew ?_))); (case side8 => exact (Kd.R_reads' HO202.out).2.1); (case side9 => repeat (first | exact (Kd.R_reads' HO209.out).2.2 | (with_reducible refine Kd.C_alloc ?_ _) | (with_reducible refine Kd.C_drewN ?_ _) | (with_reducible refine Kd.C_drew ?_))); (case side10 => exact (Kd.R_reads' HO209.out).2.1); (case side11 => repeat (first | exact (Kd.R_reads' HO212.out).2.2 | (with_reducible refine Kd.C_alloc ?_ _) | (with_reducible refine Kd.C_drewN ?_ _) | (with_reducible refine Kd.C_drew ?_))); (case side12 => exact (Kd.R_reads' HO212.out).2.1); (case side13 => repeat (first | exact (Kd.R_reads' HO215.out).2.2 | (with_reducible refine Kd.C_alloc ?_ _) | (with_reducible refine Kd.C_drewN ?_ _) | (with_reducible refine Kd.C_drew ?_))); (case side14 => exact (Kd.R_reads' HO215.out).2.1); (case side15 => repeat (first | exact (Kd.R_reads' HO218.out).2.2 | (with_reducible refine Kd.C_alloc ?_ _) | (with_reducible refine Kd.C_drewN ?_ _) | (with_reducible refine Kd.C_drew ?_))); (case side16 => exact (Kd.R_reads' HO218.out).2.1); rintro e w85 ⟨rfl, hb⟩; have n0_ := Aside0.mk (Kd.R_below (by (with_reducible repeat (first | apply Kd.R_alloc | apply Kd.R_drewN | apply Kd.R_drew)); exact HO193.out) hb); have n1_ := Aside0.mk (Kd.R_below (by (with_reducible repeat (first | apply Kd.R_alloc | apply Kd.R_drewN | apply Kd.R_drew)); exact HO196.out) hb); have n2_ := Aside0.mk (Kd.R_below (by (with_reducible repeat (first | apply Kd.R_alloc | apply Kd.R_drewN | apply Kd.R_drew)); exact HO199.out) hb); have n3_ := Aside0.mk (Kd.R_below (by (with_reducible repeat (first | apply Kd.R_alloc | apply Kd.R_drewN | apply Kd.R_drew)); exact HO202.out) hb); have n4_ := Aside0.mk (Kd.R_below (by (with_reducible repeat (first | apply Kd.R_alloc | apply Kd.R_drewN | apply Kd.R_drew)); exact HO209.out) hb); have n5_ := Aside0.mk (Kd.R_below (by (with_reducible repeat (first | apply Kd.R_alloc | apply Kd.R_drewN | apply Kd.R_drew)); exact HO212.out) hb); have n6_ := Aside0.mk (Kd.R_below (by (with_reducible repeat (first | apply Kd.R_alloc | apply Kd.R_drewN | apply Kd.R_drew)); exact HO215.out) hb); have n7_ := Aside0.mk (Kd.R_below (by (with_reducible repeat (first | apply Kd.R_alloc | apply Kd.R_drewN | apply Kd.R_drew)); exact HO218.out) hb); have n8_ := Aside0.mk (Kd.R_below (by (with_reducible repeat (first | apply Kd.R_alloc | apply Kd.R_drewN | apply Kd.R_drew)); exact HO224.out) hb); have n9_ := Aside0.mk (Kd.R_below (by (with_reducible repeat (first | apply Kd.R_alloc | apply Kd.R_drewN | apply Kd.R_drew)); exact HO228.out) hb); have n10_ := Aside0.mk (blk_below (g := gb186) (o := .cells #[.int .i64 a0_0, .slice A0_1 l0_1.length c0_1, .slice A0_2 l0_2.length c0_2, .slice A0_3 l0_3.length c0_3, .slice A0_4 l0_4.length c0_4] 26 (0, 0)) (by (with_reducible repeat (first | refine blk_drewN ?_ _ | refine blk_drew ?_ | refine blk_alloc ?_ _)); exact BK186.out) hb); have n11_ := Aside0.mk (blk_below (g := gb205) (o := .cells #[.int .i64 t190, .slice Ao36 t191.length co36, .slice Ao37 t194.length co37, .slice Ao38 t197.length co38, .slice Ao39 t200.length co39] 26 (0, 0)) (by (with_reducible repeat (first | refine blk_drewN ?_ _ | refine blk_drew ?_ | refine blk_alloc ?_ _)); exact BK205.out) hb); have n12_ := Aside0.mk (blk_below (g := gb221) (o := .cells #[.int .i64 t206, .slice Ao45 t207.length co45, .slice Ao46 t210.length co46, .slice Ao47 t213.length co47, .slice Ao48 t216.length co48] 26 (0, 0)) (by (with_reducible repeat (first | refine blk_drewN ?_ _ | refine blk_drew ?_ | refine blk_alloc ?_ _)); exact BK221.out) hb); have n13_ := Aside0.mk (below_step (by repeat (first | (with_reducible first | exact HB.out | apply below_alloc | apply pw_below_drewN | apply below_drew1 | refine below_set ?_ GE186.out | refine below_set ?_ GE205.out | refine below_set ?_ GE221.out) | exact HB.out)) hb); clear HO193; clear HO196; clear HO199; clear HO202; clear HO209; clear HO212; clear HO215; clear HO218; clear HO224; clear HO228; clear BK186; clear BK205; clear BK221; clear HB; have HO193 := n0_; have HO196 := n1_; have HO199 := n2_; have HO202 := n3_; have HO209 := n4_; have HO212 := n5_; have HO215 := n6_; have HO218 := n7_; have HO224 := n8_; have HO228 := n9_; have BK186 := n10_; have BK205 := n11_; have BK221 := n12_; have HB := n13_; clear n0_ n1_ n2_ n3_ n4_ n5_ n6_ n7_ n8_ n9_ n10_ n11_ n12_ n13_; (try clear hb); (try clear hb2); (try clear hk); (try clear hi); obtain ⟨Ao86, co86, eo86⟩ := Kd.R_slice HO228.out; subst eo86; obtain ⟨Ao87, co87, eo87⟩ := Kd.R_slice HO224.out; subst eo87; have q88 : ((t222.length : Int) : Int) ≤ ((t226.length : Int) : Int) := of_decide_eq_true (by first | (with_reducible assumption) | assumption); obtain ⟨i088, hi088, _, hsz88, _⟩ := info_parts info4; have hroom88 : t226.length ≤ co86 := (Kd.R_reads' HO228.out).2.1; have hC88 : Kd.C Kd.bool _ Ao86 t226.length t226 := (Kd.R_reads' HO228.out).2.2; have hcut88 := cut_to (P := Try.prog) 35 4 .i64 Try.underlying35 hi088 Ao86 t226.length co86 (t222.length : Int) (of_decide_eq_true (by first | (with_reducible assumption) | assumption)) q88 hroom88; have hr88 := Kd.C_take (m := ((t222.length : Int) : Int).toNat) hC88 (by omega); have hy88 : y231.length = ((t222.length : Int) : Int).toNat := (by rw [Ny231.out, List.length_take]; omega); rw [← Ny231.out] at hr88; rw [← hy88] at hcut88; have HR234 := Aside0.mk hr88; have HC234 := Aside0.mk (show y231.length ≤ co86 from by omega); clear hr88 hC88 hroom88 hi088 hsz88; have KY88 := Aside0.mk hy88; clear hy88; have KL88 := Aside0.mk (show ((t222.length : Int) : Int).toNat ≤ t226.length from by omega); replace q88 := eq_true q88) | (go_at_call 15; (with_reducible refine (spiritlevelref04_Same.calls kj6 _ _ y231 _ _ t222 t235 _ ?side1 ?side2 ?side3 ?side4 A79.out).mono ?_); (case side1 => repeat (first | exact (by repeat (first | (with_reducible exact HR234.out) | (with_reducible refine Kd.C_alloc ?_ _) | (with_reducible refine Kd.C_drewN ?_ _) | (with_reducible refine Kd.C_drew ?_) | exact HR234.out)) | (with_reducible refine Kd.C_alloc ?_ _) | (with_reducible refine Kd.C_drewN ?_ _) | (with_reducible refine Kd.C_drew ?_))); (case side2 => exact HC234.out); (case side3 => repeat (first | exact (Kd.R_reads' HO224.out).2.2 | (with_reducible refine Kd.C_alloc ?_ _) | (with_reducible refine Kd.C_drewN ?_ _) | (with_reducible refine Kd.C_drew ?_))); (case side4 => exact (Kd.R_reads' HO224.out).2.1); rintro e w' ⟨rfl, ⟨nd, rfl⟩⟩))
                              go_meet
                              case rel => exact ⟨_, (!t235), (by first | rfl | (simp; done) | (simp [*]; done)), H', ⟨by have := HJ6.out; first | omega | exact Nat.le_refl _⟩, ⟨by (with_reducible repeat (first | apply Kd.R_alloc | apply Kd.R_drewN | apply Kd.R_drew)); exact Kd.R_mono HO224.out (fun _ hk => hk.2)⟩, ⟨by (with_reducible repeat (first | apply Kd.R_alloc | apply Kd.R_drewN | apply Kd.R_drew)); exact Kd.R_mono HO228.out (fun _ hk => hk.2)⟩, ⟨by (with_reducible repeat (first | apply Kd.R_alloc | apply Kd.R_drewN | apply Kd.R_drew)); exact Kd.R_mono HO193.out (fun _ hk => hk.2)⟩, ⟨by (with_reducible repeat (first | apply Kd.R_alloc | apply Kd.R_drewN | apply Kd.R_drew)); exact Kd.R_mono HO196.out (fun _ hk => hk.2)⟩, ⟨by (with_reducible repeat (first | apply Kd.R_alloc | apply Kd.R_drewN | apply Kd.R_drew)); exact Kd.R_mono HO199.out (fun _ hk => ⟨hk.1.1, ⟨hk.1.2, hk.2⟩⟩)⟩, ⟨by (with_reducible repeat (first | apply Kd.R_alloc | apply Kd.R_drewN | apply Kd.R_drew)); exact Kd.R_mono HO202.out (fun _ hk => ⟨hk.1.1, ⟨hk.1.2, hk.2⟩⟩)⟩, ⟨by (with_reducible repeat (first | apply Kd.R_alloc | apply Kd.R_drewN | apply Kd.R_drew)); exact Kd.R_mono HO209.out (fun _ hk => hk.2)⟩, ⟨by (with_reducible repeat (first | apply Kd.R_alloc | apply Kd.R_drewN | apply Kd.R_drew)); exact Kd.R_mono HO212.out (fun _ hk => hk.2)⟩, ⟨by (with_reducible repeat (first | apply Kd.R_alloc | apply Kd.R_drewN | apply Kd.R_drew)); exact Kd.R_mono HO215.out (fun _ hk => ⟨hk.1.2, ⟨hk.2, hk.1.1⟩⟩)⟩, ⟨by (with_reducible repeat (first | apply Kd.R_alloc | apply Kd.R_drewN | apply Kd.R_drew)); exact Kd.R_mono HO218.out (fun _ hk => ⟨hk.1.2, ⟨hk.2, hk.1.1⟩⟩)⟩, ⟨by (with_reducible repeat (first | refine blk_drewN ?_ _ | refine blk_drew ?_ | refine blk_alloc ?_ _)); exact BK186.out⟩, ⟨by (with_reducible repeat (first | refine blk_drewN ?_ _ | refine blk_drew ?_ | refine blk_alloc ?_ _)); exact BK205.out⟩, ⟨by (with_reducible repeat (first | refine blk_drewN ?_ _ | refine blk_drew ?_ | refine blk_alloc ?_ _)); exact BK221.out⟩, ⟨by repeat (first | (with_reducible first | exact HB.out | apply below_alloc | apply pw_below_drewN | apply below_drew1 | refine below_set ?_ GE186.out | refine below_set ?_ GE205.out | refine below_set ?_ GE221.out) | exact HB.out)⟩⟩
                            · rw [if_neg c78] at H
                              exact absurd H (by simp)
                          · rw [if_neg c77] at H
                            exact absurd H (by simp)
                    · rw [if_neg c58] at H
                      have c58b0 : (t229 == 0) = false := beq_eq_false_iff_ne.mpr c58
                      have c58b1 : (t229 != 0) = true := bne_iff_ne.mpr c58
                      have H' := Aside0.mk H
                      clear H
                      have hnb89 := NB205_186.out
                      have hnc89 := NB186_205.out
                      have hnb90 := NB205_221.out
                      have hnc90 := NB221_205.out
                      have hcz91_0 : w52.cell? ⟨gb205, 0, none⟩ = some (.int .i64 t190) := (blk_cell BK205.out 0).trans rfl
                      have hcz91_1 : w52.cell? ⟨gb205, 1, none⟩ = some (.slice Ao36 t191.length co36) := (blk_cell BK205.out 1).trans rfl
                      have hcz91_2 : w52.cell? ⟨gb205, 2, none⟩ = some (.slice Ao37 t194.length co37) := (blk_cell BK205.out 2).trans rfl
                      have hcz91_3 : w52.cell? ⟨gb205, 3, none⟩ = some (.slice Ao38 t197.length co38) := (blk_cell BK205.out 3).trans rfl
                      have hcz91_4 : w52.cell? ⟨gb205, 4, none⟩ = some (.slice Ao39 t200.length co39) := (blk_cell BK205.out 4).trans rfl
                      have hfz91_0 := blk_frozen BK205.out 0
                      have hfz91_1 := blk_frozen BK205.out 1
                      have hfz91_2 := blk_frozen BK205.out 2
                      have hfz91_3 := blk_frozen BK205.out 3
                      have hfz91_4 := blk_frozen BK205.out 4
                      have hnb92 := NB221_186.out
                      have hnc92 := NB186_221.out
                      have hcz93_0 : w52.cell? ⟨gb221, 0, none⟩ = some (.int .i64 t206) := (blk_cell BK221.out 0).trans rfl
                      have hcz93_1 : w52.cell? ⟨gb221, 1, none⟩ = some (.slice Ao45 t207.length co45) := (blk_cell BK221.out 1).trans rfl
                      have hcz93_2 : w52.cell? ⟨gb221, 2, none⟩ = some (.slice Ao46 t210.length co46) := (blk_cell BK221.out 2).trans rfl
                      have hcz93_3 : w52.cell? ⟨gb221, 3, none⟩ = some (.slice Ao47 t213.length co47) := (blk_cell BK221.out 3).trans rfl
                      have hcz93_4 : w52.cell? ⟨gb221, 4, none⟩ = some (.slice Ao48 t216.length co48) := (blk_cell BK221.out 4).trans rfl
                      have hfz93_0 := blk_frozen BK221.out 0
                      have hfz93_1 := blk_frozen BK221.out 1
                      have hfz93_2 := blk_frozen BK221.out 2
                      have hfz93_3 := blk_frozen BK221.out 3
                      have hfz93_4 := blk_frozen BK221.out 4
                      go_wp2_with (first | (go_at_call 11; (with_reducible refine (spiritlevelref02_Same.calls kj6 t190 _ _ t191 _ _ t194 _ _ t197 _ _ t200 t206 _ _ t207 _ _ t210 _ _ t213 _ _ t216 true _ ?side1 ?side2 ?side3 ?side4 ?side5 ?side6 ?side7 ?side8 ?side9 ?side10 ?side11 ?side12 ?side13 ?side14 ?side15 ?side16 A55.out).mono ?_); (case side1 => repeat (first | exact (Kd.R_reads' HO193.out).2.2 | (with_reducible refine Kd.C_alloc ?_ _) | (with_reducible refine Kd.C_drewN ?_ _) | (with_reducible refine Kd.C_drew ?_))); (case side2 => exact (Kd.R_reads' HO193.out).2.1); (case side3 => repeat (first | exact (Kd.R_reads' HO196.out).2.2 | (with_reducible refine Kd.C_alloc ?_ _) | (with_reducible refine Kd.C_drewN ?_ _) | (with_reducible refine Kd.C_drew ?_))); (case side4 => exact (Kd.R_reads' HO196.out).2.1); (case side5 => repeat (first | exact (Kd.R_reads' HO199.out).2.2 | (with_reducible refine Kd.C_alloc ?_ _) | (with_reducible refine Kd.C_drewN ?_ _) | (with_reducible refine Kd.C_drew ?_))); (case side6 => exact (Kd.R_reads' HO199.out).2.1); (case side7 => repeat (first | exact (Kd.R_reads' HO202.out).2.2 | (with_reducible refine Kd.C_alloc ?_ _) | (with_reducible refine Kd.C_drewN ?_ _) | (with_reducible refine Kd.C_drew ?_))); (case side8 => exact (Kd.R_reads' HO202.out).2.1); (case side9 => repeat (first | exact (Kd.R_reads' HO209.out).2.2 | (with_reducible refine Kd.C_alloc ?_ _) | (with_reducible refine Kd.C_drewN ?_ _) | (with_reducible refine Kd.C_drew ?_))); (case side10 => exact (Kd.R_reads' HO209.out).2.1); (case side11 => repeat (first | exact (Kd.R_reads' HO212.out).2.2 | (with_reducible refine Kd.C_alloc ?_ _) | (with_reducible refine Kd.C_drewN ?_ _) | (with_reducible refine Kd.C_drew ?_))); (case side12 => exact (Kd.R_reads' HO212.out).2.1); (case side13 => repeat (first | exact (Kd.R_reads' HO215.out).2.2 | (with_reducible refine Kd.C_alloc ?_ _) | (with_reducible refine Kd.C_drewN ?_ _) | (with_reducible refine Kd.C_drew ?_))); (case side14 => exact (Kd.R_reads' HO215.out).2.1); (case side15 => repeat (first | exact (Kd.R_reads' HO218.out).2.2 | (with_reducible refine Kd.C_alloc ?_ _) | (with_reducible refine Kd.C_drewN ?_ _) | (with_reducible refine Kd.C_drew ?_))); (case side16 => exact (Kd.R_reads' HO218.out).2.1); rintro e w94 ⟨rfl, hb⟩; have n0_ := Aside0.mk (Kd.R_below (by (with_reducible repeat (first | apply Kd.R_alloc | apply Kd.R_drewN | apply Kd.R_drew)); exact HO193.out) hb); have n1_ := Aside0.mk (Kd.R_below (by (with_reducible repeat (first | apply Kd.R_alloc | apply Kd.R_drewN | apply Kd.R_drew)); exact HO196.out) hb); have n2_ := Aside0.mk (Kd.R_below (by (with_reducible repeat (first | apply Kd.R_alloc | apply Kd.R_drewN | apply Kd.R_drew)); exact HO199.out) hb); have n3_ := Aside0.mk (Kd.R_below (by (with_reducible repeat (first | apply Kd.R_alloc | apply Kd.R_drewN | apply Kd.R_drew)); exact HO202.out) hb); have n4_ := Aside0.mk (Kd.R_below (by (with_reducible repeat (first | apply Kd.R_alloc | apply Kd.R_drewN | apply Kd.R_drew)); exact HO209.out) hb); have n5_ := Aside0.mk (Kd.R_below (by (with_reducible repeat (first | apply Kd.R_alloc | apply Kd.R_drewN | apply Kd.R_drew)); exact HO212.out) hb); have n6_ := Aside0.mk (Kd.R_below (by (with_reducible repeat (first | apply Kd.R_alloc | apply Kd.R_drewN | apply Kd.R_drew)); exact HO215.out) hb); have n7_ := Aside0.mk (Kd.R_below (by (with_reducible repeat (first | apply Kd.R_alloc | apply Kd.R_drewN | apply Kd.R_drew)); exact HO218.out) hb); have n8_ := Aside0.mk (Kd.R_below (by (with_reducible repeat (first | apply Kd.R_alloc | apply Kd.R_drewN | apply Kd.R_drew)); exact HO224.out) hb); have n9_ := Aside0.mk (Kd.R_below (by (with_reducible repeat (first | apply Kd.R_alloc | apply Kd.R_drewN | apply Kd.R_drew)); exact HO228.out) hb); have n10_ := Aside0.mk (blk_below (g := gb186) (o := .cells #[.int .i64 a0_0, .slice A0_1 l0_1.length c0_1, .slice A0_2 l0_2.length c0_2, .slice A0_3 l0_3.length c0_3, .slice A0_4 l0_4.length c0_4] 26 (0, 0)) (by (with_reducible repeat (first | refine blk_drewN ?_ _ | refine blk_drew ?_ | refine blk_alloc ?_ _)); exact BK186.out) hb); have n11_ := Aside0.mk (blk_below (g := gb205) (o := .cells #[.int .i64 t190, .slice Ao36 t191.length co36, .slice Ao37 t194.length co37, .slice Ao38 t197.length co38, .slice Ao39 t200.length co39] 26 (0, 0)) (by (with_reducible repeat (first | refine blk_drewN ?_ _ | refine blk_drew ?_ | refine blk_alloc ?_ _)); exact BK205.out) hb); have n12_ := Aside0.mk (blk_below (g := gb221) (o := .cells #[.int .i64 t206, .slice Ao45 t207.length co45, .slice Ao46 t210.length co46, .slice Ao47 t213.length co47, .slice Ao48 t216.length co48] 26 (0, 0)) (by (with_reducible repeat (first | refine blk_drewN ?_ _ | refine blk_drew ?_ | refine blk_alloc ?_ _)); exact BK221.out) hb); have n13_ := Aside0.mk (below_step (by repeat (first | (with_reducible first | exact HB.out | apply below_alloc | apply pw_below_drewN | apply below_drew1 | refine below_set ?_ GE186.out | refine below_set ?_ GE205.out | refine below_set ?_ GE221.out) | exact HB.out)) hb); clear HO193; clear HO196; clear HO199; clear HO202; clear HO209; clear HO212; clear HO215; clear HO218; clear HO224; clear HO228; clear BK186; clear BK205; clear BK221; clear HB; have HO193 := n0_; have HO196 := n1_; have HO199 := n2_; have HO202 := n3_; have HO209 := n4_; have HO212 := n5_; have HO215 := n6_; have HO218 := n7_; have HO224 := n8_; have HO228 := n9_; have BK186 := n10_; have BK205 := n11_; have BK221 := n12_; have HB := n13_; clear n0_ n1_ n2_ n3_ n4_ n5_ n6_ n7_ n8_ n9_ n10_ n11_ n12_ n13_; (try clear hb); (try clear hb2); (try clear hk); (try clear hi)))
                      go_meet
                      case rel => exact ⟨_, (true), (by first | rfl | (simp; done) | (simp [*]; done)), H', ⟨by have := HJ6.out; first | omega | exact Nat.le_refl _⟩, ⟨by (with_reducible repeat (first | apply Kd.R_alloc | apply Kd.R_drewN | apply Kd.R_drew)); exact Kd.R_mono HO224.out (fun _ hk => hk.2)⟩, ⟨by (with_reducible repeat (first | apply Kd.R_alloc | apply Kd.R_drewN | apply Kd.R_drew)); exact Kd.R_mono HO228.out (fun _ hk => hk.2)⟩, ⟨by (with_reducible repeat (first | apply Kd.R_alloc | apply Kd.R_drewN | apply Kd.R_drew)); exact Kd.R_mono HO193.out (fun _ hk => hk.2)⟩, ⟨by (with_reducible repeat (first | apply Kd.R_alloc | apply Kd.R_drewN | apply Kd.R_drew)); exact Kd.R_mono HO196.out (fun _ hk => hk.2)⟩, ⟨by (with_reducible repeat (first | apply Kd.R_alloc | apply Kd.R_drewN | apply Kd.R_drew)); exact Kd.R_mono HO199.out (fun _ hk => ⟨hk.1.1, ⟨hk.1.2, hk.2⟩⟩)⟩, ⟨by (with_reducible repeat (first | apply Kd.R_alloc | apply Kd.R_drewN | apply Kd.R_drew)); exact Kd.R_mono HO202.out (fun _ hk => ⟨hk.1.1, ⟨hk.1.2, hk.2⟩⟩)⟩, ⟨by (with_reducible repeat (first | apply Kd.R_alloc | apply Kd.R_drewN | apply Kd.R_drew)); exact Kd.R_mono HO209.out (fun _ hk => hk.2)⟩, ⟨by (with_reducible repeat (first | apply Kd.R_alloc | apply Kd.R_drewN | apply Kd.R_drew)); exact Kd.R_mono HO212.out (fun _ hk => hk.2)⟩, ⟨by (with_reducible repeat (first | apply Kd.R_alloc | apply Kd.R_drewN | apply Kd.R_drew)); exact Kd.R_mono HO215.out (fun _ hk => ⟨hk.1.2, ⟨hk.2, hk.1.1⟩⟩)⟩, ⟨by (with_reducible repeat (first | apply Kd.R_alloc | apply Kd.R_drewN | apply Kd.R_drew)); exact Kd.R_mono HO218.out (fun _ hk => ⟨hk.1.2, ⟨hk.2, hk.1.1⟩⟩)⟩, ⟨by (with_reducible repeat (first | refine blk_drewN ?_ _ | refine blk_drew ?_ | refine blk_alloc ?_ _)); exact BK186.out⟩, ⟨by (with_reducible repeat (first | refine blk_drewN ?_ _ | refine blk_drew ?_ | refine blk_alloc ?_ _)); exact BK205.out⟩, ⟨by (with_reducible repeat (first | refine blk_drewN ?_ _ | refine blk_drew ?_ | refine blk_alloc ?_ _)); exact BK221.out⟩, ⟨by repeat (first | (with_reducible first | exact HB.out | apply below_alloc | apply pw_below_drewN | apply below_drew1 | refine below_set ?_ GE186.out | refine below_set ?_ GE205.out | refine below_set ?_ GE221.out) | exact HB.out)⟩⟩
                  · rw [if_neg c57] at H
                    have c57b0 : (t225 == 0) = false := beq_eq_false_iff_ne.mpr c57
                    have c57b1 : (t225 != 0) = true := bne_iff_ne.mpr c57
                    have H' := Aside0.mk H
                    clear H
                    have hnb95 := NB205_186.out
                    have hnc95 := NB186_205.out
                    have hnb96 := NB205_221.out
                    have hnc96 := NB221_205.out
                    have hcz97_0 : w52.cell? ⟨gb205, 0, none⟩ = some (.int .i64 t190) := (blk_cell BK205.out 0).trans rfl
                    have hcz97_1 : w52.cell? ⟨gb205, 1, none⟩ = some (.slice Ao36 t191.length co36) := (blk_cell BK205.out 1).trans rfl
                    have hcz97_2 : w52.cell? ⟨gb205, 2, none⟩ = some (.slice Ao37 t194.length co37) := (blk_cell BK205.out 2).trans rfl
                    have hcz97_3 : w52.cell? ⟨gb205, 3, none⟩ = some (.slice Ao38 t197.length co38) := (blk_cell BK205.out 3).trans rfl
                    have hcz97_4 : w52.cell? ⟨gb205, 4, none⟩ = some (.slice Ao39 t200.length co39) := (blk_cell BK205.out 4).trans rfl
                    have hfz97_0 := blk_frozen BK205.out 0
                    have hfz97_1 := blk_frozen BK205.out 1
                    have hfz97_2 := blk_frozen BK205.out 2
                    have hfz97_3 := blk_frozen BK205.out 3
                    have hfz97_4 := blk_frozen BK205.out 4
                    have hnb98 := NB221_186.out
                    have hnc98 := NB186_221.out
                    have hcz99_0 : w52.cell? ⟨gb221, 0, none⟩ = some (.int .i64 t206) := (blk_cell BK221.out 0).trans rfl
                    have hcz99_1 : w52.cell? ⟨gb221, 1, none⟩ = some (.slice Ao45 t207.length co45) := (blk_cell BK221.out 1).trans rfl
                    have hcz99_2 : w52.cell? ⟨gb221, 2, none⟩ = some (.slice Ao46 t210.length co46) := (blk_cell BK221.out 2).trans rfl
                    have hcz99_3 : w52.cell? ⟨gb221, 3, none⟩ = some (.slice Ao47 t213.length co47) := (blk_cell BK221.out 3).trans rfl
                    have hcz99_4 : w52.cell? ⟨gb221, 4, none⟩ = some (.slice Ao48 t216.length co48) := (blk_cell BK221.out 4).trans rfl
                    have hfz99_0 := blk_frozen BK221.out 0
                    have hfz99_1 := blk_frozen BK221.out 1
                    have hfz99_2 := blk_frozen BK221.out 2
                    have hfz99_3 := blk_frozen BK221.out 3
                    have hfz99_4 := blk_frozen BK221.out 4
                    go_wp2_with (first | (go_at_call 11; (with_reducible refine (spiritlevelref02_Same.calls kj6 t190 _ _ t191 _ _ t194 _ _ t197 _ _ t200 t206 _ _ t207 _ _ t210 _ _ t213 _ _ t216 true _ ?side1 ?side2 ?side3 ?side4 ?side5 ?side6 ?side7 ?side8 ?side9 ?side10 ?side11 ?side12 ?side13 ?side14 ?side15 ?side16 A55.out).mono ?_); (case side1 => repeat (first | exact (Kd.R_reads' HO193.out).2.2 | (with_reducible refine Kd.C_alloc ?_ _) | (with_reducible refine Kd.C_drewN ?_ _) | (with_reducible refine Kd.C_drew ?_))); (case side2 => exact (Kd.R_reads' HO193.out).2.1); (case side3 => repeat (first | exact (Kd.R_reads' HO196.out).2.2 | (with_reducible refine Kd.C_alloc ?_ _) | (with_reducible refine Kd.C_drewN ?_ _) | (with_reducible refine Kd.C_drew ?_))); (case side4 => exact (Kd.R_reads' HO196.out).2.1); (case side5 => repeat (first | exact (Kd.R_reads' HO199.out).2.2 | (with_reducible refine Kd.C_alloc ?_ _) | (with_reducible refine Kd.C_drewN ?_ _) | (with_reducible refine Kd.C_drew ?_))); (case side6 => exact (Kd.R_reads' HO199.out).2.1); (case side7 => repeat (first | exact (Kd.R_reads' HO202.out).2.2 | (with_reducible refine Kd.C_alloc ?_ _) | (with_reducible refine Kd.C_drewN ?_ _) | (with_reducible refine Kd.C_drew ?_))); (case side8 => exact (Kd.R_reads' HO202.out).2.1); (case side9 => repeat (first | exact (Kd.R_reads' HO209.out).2.2 | (with_reducible refine Kd.C_alloc ?_ _) | (with_reducible refine Kd.C_drewN ?_ _) | (with_reducible refine Kd.C_drew ?_))); (case side10 => exact (Kd.R_reads' HO209.out).2.1); (case side11 => repeat (first | exact (Kd.R_reads' HO212.out).2.2 | (with_reducible refine Kd.C_alloc ?_ _) | (with_reducible refine Kd.C_drewN ?_ _) | (with_reducible refine Kd.C_drew ?_))); (case side12 => exact (Kd.R_reads' HO212.out).2.1); (case side13 => repeat (first | exact (Kd.R_reads' HO215.out).2.2 | (with_reducible refine Kd.C_alloc ?_ _) | (with_reducible refine Kd.C_drewN ?_ _) | (with_reducible refine Kd.C_drew ?_))); (case side14 => exact (Kd.R_reads' HO215.out).2.1); (case side15 => repeat (first | exact (Kd.R_reads' HO218.out).2.2 | (with_reducible refine Kd.C_alloc ?_ _) | (with_reducible refine Kd.C_drewN ?_ _) | (with_reducible refine Kd.C_drew ?_))); (case side16 => exact (Kd.R_reads' HO218.out).2.1); rintro e w100 ⟨rfl, hb⟩; have n0_ := Aside0.mk (Kd.R_below (by (with_reducible repeat (first | apply Kd.R_alloc | apply Kd.R_drewN | apply Kd.R_drew)); exact HO193.out) hb); have n1_ := Aside0.mk (Kd.R_below (by (with_reducible repeat (first | apply Kd.R_alloc | apply Kd.R_drewN | apply Kd.R_drew)); exact HO196.out) hb); have n2_ := Aside0.mk (Kd.R_below (by (with_reducible repeat (first | apply Kd.R_alloc | apply Kd.R_drewN | apply Kd.R_drew)); exact HO199.out) hb); have n3_ := Aside0.mk (Kd.R_below (by (with_reducible repeat (first | apply Kd.R_alloc | apply Kd.R_drewN | apply Kd.R_drew)); exact HO202.out) hb); have n4_ := Aside0.mk (Kd.R_below (by (with_reducible repeat (first | apply Kd.R_alloc | apply Kd.R_drewN | apply Kd.R_drew)); exact HO209.out) hb); have n5_ := Aside0.mk (Kd.R_below (by (with_reducible repeat (first | apply Kd.R_alloc | apply Kd.R_drewN | apply Kd.R_drew)); exact HO212.out) hb); have n6_ := Aside0.mk (Kd.R_below (by (with_reducible repeat (first | apply Kd.R_alloc | apply Kd.R_drewN | apply Kd.R_drew)); exact HO215.out) hb); have n7_ := Aside0.mk (Kd.R_below (by (with_reducible repeat (first | apply Kd.R_alloc | apply Kd.R_drewN | apply Kd.R_drew)); exact HO218.out) hb); have n8_ := Aside0.mk (Kd.R_below (by (with_reducible repeat (first | apply Kd.R_alloc | apply Kd.R_drewN | apply Kd.R_drew)); exact HO224.out) hb); have n9_ := Aside0.mk (Kd.R_below (by (with_reducible repeat (first | apply Kd.R_alloc | apply Kd.R_drewN | apply Kd.R_drew)); exact HO228.out) hb); have n10_ := Aside0.mk (blk_below (g := gb186) (o := .cells #[.int .i64 a0_0, .slice A0_1 l0_1.length c0_1, .slice A0_2 l0_2.length c0_2, .slice A0_3 l0_3.length c0_3, .slice A0_4 l0_4.length c0_4] 26 (0, 0)) (by (with_reducible repeat (first | refine blk_drewN ?_ _ | refine blk_drew ?_ | refine blk_alloc ?_ _)); exact BK186.out) hb); have n11_ := Aside0.mk (blk_below (g := gb205) (o := .cells #[.int .i64 t190, .slice Ao36 t191.length co36, .slice Ao37 t194.length co37, .slice Ao38 t197.length co38, .slice Ao39 t200.length co39] 26 (0, 0)) (by (with_reducible repeat (first | refine blk_drewN ?_ _ | refine blk_drew ?_ | refine blk_alloc ?_ _)); exact BK205.out) hb); have n12_ := Aside0.mk (blk_below (g := gb221) (o := .cells #[.int .i64 t206, .slice Ao45 t207.length co45, .slice Ao46 t210.length co46, .slice Ao47 t213.length co47, .slice Ao48 t216.length co48] 26 (0, 0)) (by (with_reducible repeat (first | refine blk_drewN ?_ _ | refine blk_drew ?_ | refine blk_alloc ?_ _)); exact BK221.out) hb); have n13_ := Aside0.mk (below_step (by repeat (first | (with_reducible first | exact HB.out | apply below_alloc | apply pw_below_drewN | apply below_drew1 | refine below_set ?_ GE186.out | refine below_set ?_ GE205.out | refine below_set ?_ GE221.out) | exact HB.out)) hb); clear HO193; clear HO196; clear HO199; clear HO202; clear HO209; clear HO212; clear HO215; clear HO218; clear HO224; clear HO228; clear BK186; clear BK205; clear BK221; clear HB; have HO193 := n0_; have HO196 := n1_; have HO199 := n2_; have HO202 := n3_; have HO209 := n4_; have HO212 := n5_; have HO215 := n6_; have HO218 := n7_; have HO224 := n8_; have HO228 := n9_; have BK186 := n10_; have BK205 := n11_; have BK221 := n12_; have HB := n13_; clear n0_ n1_ n2_ n3_ n4_ n5_ n6_ n7_ n8_ n9_ n10_ n11_ n12_ n13_; (try clear hb); (try clear hb2); (try clear hk); (try clear hi)))
                    go_meet
                    case rel => exact ⟨_, (true), (by first | rfl | (simp; done) | (simp [*]; done)), H', ⟨by have := HJ6.out; first | omega | exact Nat.le_refl _⟩, ⟨by (with_reducible repeat (first | apply Kd.R_alloc | apply Kd.R_drewN | apply Kd.R_drew)); exact Kd.R_mono HO224.out (fun _ hk => hk.2)⟩, ⟨by (with_reducible repeat (first | apply Kd.R_alloc | apply Kd.R_drewN | apply Kd.R_drew)); exact Kd.R_mono HO228.out (fun _ hk => hk.2)⟩, ⟨by (with_reducible repeat (first | apply Kd.R_alloc | apply Kd.R_drewN | apply Kd.R_drew)); exact Kd.R_mono HO193.out (fun _ hk => hk.2)⟩, ⟨by (with_reducible repeat (first | apply Kd.R_alloc | apply Kd.R_drewN | apply Kd.R_drew)); exact Kd.R_mono HO196.out (fun _ hk => hk.2)⟩, ⟨by (with_reducible repeat (first | apply Kd.R_alloc | apply Kd.R_drewN | apply Kd.R_drew)); exact Kd.R_mono HO199.out (fun _ hk => ⟨hk.1.1, ⟨hk.1.2, hk.2⟩⟩)⟩, ⟨by (with_reducible repeat (first | apply Kd.R_alloc | apply Kd.R_drewN | apply Kd.R_drew)); exact Kd.R_mono HO202.out (fun _ hk => ⟨hk.1.1, ⟨hk.1.2, hk.2⟩⟩)⟩, ⟨by (with_reducible repeat (first | apply Kd.R_alloc | apply Kd.R_drewN | apply Kd.R_drew)); exact Kd.R_mono HO209.out (fun _ hk => hk.2)⟩, ⟨by (with_reducible repeat (first | apply Kd.R_alloc | apply Kd.R_drewN | apply Kd.R_drew)); exact Kd.R_mono HO212.out (fun _ hk => hk.2)⟩, ⟨by (with_reducible repeat (first | apply Kd.R_alloc | apply Kd.R_drewN | apply Kd.R_drew)); exact Kd.R_mono HO215.out (fun _ hk => ⟨hk.1.2, ⟨hk.2, hk.1.1⟩⟩)⟩, ⟨by (with_reducible repeat (first | apply Kd.R_alloc | apply Kd.R_drewN | apply Kd.R_drew)); exact Kd.R_mono HO218.out (fun _ hk => ⟨hk.1.2, ⟨hk.2, hk.1.1⟩⟩)⟩, ⟨by (with_reducible repeat (first | refine blk_drewN ?_ _ | refine blk_drew ?_ | refine blk_alloc ?_ _)); exact BK186.out⟩, ⟨by (with_reducible repeat (first | refine blk_drewN ?_ _ | refine blk_drew ?_ | refine blk_alloc ?_ _)); exact BK205.out⟩, ⟨by (with_reducible repeat (first | refine blk_drewN ?_ _ | refine blk_drew ?_ | refine blk_alloc ?_ _)); exact BK221.out⟩, ⟨by repeat (first | (with_reducible first | exact HB.out | apply below_alloc | apply pw_below_drewN | apply below_drew1 | refine below_set ?_ GE186.out | refine below_set ?_ GE205.out | refine below_set ?_ GE221.out) | exact HB.out)⟩⟩
                · replace c56 := Bool.eq_false_iff.mpr c56
                  subst c56
                  have H1 : (spiritlevellaw26_HashGate.j1 kj6 a1 a2 t187 t203 t222 t226 true) = some r := by rw [if_neg (show ¬ (false = true) by decide)] at H; exact H
                  clear H
                  have H := H1
                  clear H1
                  have H' := Aside0.mk H
                  clear H
                  have hnb101 := NB205_186.out
                  have hnc101 := NB186_205.out
                  have hnb102 := NB205_221.out
                  have hnc102 := NB221_205.out
                  have hcz103_0 : w52.cell? ⟨gb205, 0, none⟩ = some (.int .i64 t190) := (blk_cell BK205.out 0).trans rfl
                  have hcz103_1 : w52.cell? ⟨gb205, 1, none⟩ = some (.slice Ao36 t191.length co36) := (blk_cell BK205.out 1).trans rfl
                  have hcz103_2 : w52.cell? ⟨gb205, 2, none⟩ = some (.slice Ao37 t194.length co37) := (blk_cell BK205.out 2).trans rfl
                  have hcz103_3 : w52.cell? ⟨gb205, 3, none⟩ = some (.slice Ao38 t197.length co38) := (blk_cell BK205.out 3).trans rfl
                  have hcz103_4 : w52.cell? ⟨gb205, 4, none⟩ = some (.slice Ao39 t200.length co39) := (blk_cell BK205.out 4).trans rfl
                  have hfz103_0 := blk_frozen BK205.out 0
                  have hfz103_1 := blk_frozen BK205.out 1
                  have hfz103_2 := blk_frozen BK205.out 2
                  have hfz103_3 := blk_frozen BK205.out 3
                  have hfz103_4 := blk_frozen BK205.out 4
                  have hnb104 := NB221_186.out
                  have hnc104 := NB186_221.out
                  have hcz105_0 : w52.cell? ⟨gb221, 0, none⟩ = some (.int .i64 t206) := (blk_cell BK221.out 0).trans rfl
                  have hcz105_1 : w52.cell? ⟨gb221, 1, none⟩ = some (.slice Ao45 t207.length co45) := (blk_cell BK221.out 1).trans rfl
                  have hcz105_2 : w52.cell? ⟨gb221, 2, none⟩ = some (.slice Ao46 t210.length co46) := (blk_cell BK221.out 2).trans rfl
                  have hcz105_3 : w52.cell? ⟨gb221, 3, none⟩ = some (.slice Ao47 t213.length co47) := (blk_cell BK221.out 3).trans rfl
                  have hcz105_4 : w52.cell? ⟨gb221, 4, none⟩ = some (.slice Ao48 t216.length co48) := (blk_cell BK221.out 4).trans rfl
                  have hfz105_0 := blk_frozen BK221.out 0
                  have hfz105_1 := blk_frozen BK221.out 1
                  have hfz105_2 := blk_frozen BK221.out 2
                  have hfz105_3 := blk_frozen BK221.out 3
                  have hfz105_4 := blk_frozen BK221.out 4
                  go_wp2_with (first | (go_at_call 11; (with_reducible refine (spiritlevelref02_Same.calls kj6 t190 _ _ t191 _ _ t194 _ _ t197 _ _ t200 t206 _ _ t207 _ _ t210 _ _ t213 _ _ t216 false _ ?side1 ?side2 ?side3 ?side4 ?side5 ?side6 ?side7 ?side8 ?side9 ?side10 ?side11 ?side12 ?side13 ?side14 ?side15 ?side16 A55.out).mono ?_); (case side1 => repeat (first | exact (Kd.R_reads' HO193.out).2.2 | (with_reducible refine Kd.C_alloc ?_ _) | (with_reducible refine Kd.C_drewN ?_ _) | (with_reducible refine Kd.C_drew ?_))); (case side2 => exact (Kd.R_reads' HO193.out).2.1); (case side3 => repeat (first | exact (Kd.R_reads' HO196.out).2.2 | (with_reducible refine Kd.C_alloc ?_ _) | (with_reducible refine Kd.C_drewN ?_ _) | (with_reducible refine Kd.C_drew ?_))); (case side4 => exact (Kd.R_reads' HO196.out).2.1); (case side5 => repeat (first | exact (Kd.R_reads' HO199.out).2.2 | (with_reducible refine Kd.C_alloc ?_ _) | (with_reducible refine Kd.C_drewN ?_ _) | (with_reducible refine Kd.C_drew ?_))); (case side6 => exact (Kd.R_reads' HO199.out).2.1); (case side7 => repeat (first | exact (Kd.R_reads' HO202.out).2.2 | (with_reducible refine Kd.C_alloc ?_ _) | (with_reducible refine Kd.C_drewN ?_ _) | (with_reducible refine Kd.C_drew ?_))); (case side8 => exact (Kd.R_reads' HO202.out).2.1); (case side9 => repeat (first | exact (Kd.R_reads' HO209.out).2.2 | (with_reducible refine Kd.C_alloc ?_ _) | (with_reducible refine Kd.C_drewN ?_ _) | (with_reducible refine Kd.C_drew ?_))); (case side10 => exact (Kd.R_reads' HO209.out).2.1); (case side11 => repeat (first | exact (Kd.R_reads' HO212.out).2.2 | (with_reducible refine Kd.C_alloc ?_ _) | (with_reducible refine Kd.C_drewN ?_ _) | (with_reducible refine Kd.C_drew ?_))); (case side12 => exact (Kd.R_reads' HO212.out).2.1); (case side13 => repeat (first | exact (Kd.R_reads' HO215.out).2.2 | (with_reducible refine Kd.C_alloc ?_ _) | (with_reducible refine Kd.C_drewN ?_ _) | (with_reducible refine Kd.C_drew ?_))); (case side14 => exact (Kd.R_reads' HO215.out).2.1); (case side15 => repeat (first | exact (Kd.R_reads' HO218.out).2.2 | (with_reducible refine Kd.C_alloc ?_ _) | (with_reducible refine Kd.C_drewN ?_ _) | (with_reducible refine Kd.C_drew ?_))); (case side16 => exact (Kd.R_reads' HO218.out).2.1); rintro e w106 ⟨rfl, hb⟩; have n0_ := Aside0.mk (Kd.R_below (by (with_reducible repeat (first | apply Kd.R_alloc | apply Kd.R_drewN | apply Kd.R_drew)); exact HO193.out) hb); have n1_ := Aside0.mk (Kd.R_below (by (with_reducible repeat (first | apply Kd.R_alloc | apply Kd.R_drewN | apply Kd.R_drew)); exact HO196.out) hb); have n2_ := Aside0.mk (Kd.R_below (by (with_reducible repeat (first | apply Kd.R_alloc | apply Kd.R_drewN | apply Kd.R_drew)); exact HO199.out) hb); have n3_ := Aside0.mk (Kd.R_below (by (with_reducible repeat (first | apply Kd.R_alloc | apply Kd.R_drewN | apply Kd.R_drew)); exact HO202.out) hb); have n4_ := Aside0.mk (Kd.R_below (by (with_reducible repeat (first | apply Kd.R_alloc | apply Kd.R_drewN | apply Kd.R_drew)); exact HO209.out) hb); have n5_ := Aside0.mk (Kd.R_below (by (with_reducible repeat (first | apply Kd.R_alloc | apply Kd.R_drewN | apply Kd.R_drew)); exact HO212.out) hb); have n6_ := Aside0.mk (Kd.R_below (by (with_reducible repeat (first | apply Kd.R_alloc | apply Kd.R_drewN | apply Kd.R_drew)); exact HO215.out) hb); have n7_ := Aside0.mk (Kd.R_below (by (with_reducible repeat (first | apply Kd.R_alloc | apply Kd.R_drewN | apply Kd.R_drew)); exact HO218.out) hb); have n8_ := Aside0.mk (Kd.R_below (by (with_reducible repeat (first | apply Kd.R_alloc | apply Kd.R_drewN | apply Kd.R_drew)); exact HO224.out) hb); have n9_ := Aside0.mk (Kd.R_below (by (with_reducible repeat (first | apply Kd.R_alloc | apply Kd.R_drewN | apply Kd.R_drew)); exact HO228.out) hb); have n10_ := Aside0.mk (blk_below (g := gb186) (o := .cells #[.int .i64 a0_0, .slice A0_1 l0_1.length c0_1, .slice A0_2 l0_2.length c0_2, .slice A0_3 l0_3.length c0_3, .slice A0_4 l0_4.length c0_4] 26 (0, 0)) (by (with_reducible repeat (first | refine blk_drewN ?_ _ | refine blk_drew ?_ | refine blk_alloc ?_ _)); exact BK186.out) hb); have n11_ := Aside0.mk (blk_below (g := gb205) (o := .cells #[.int .i64 t190, .slice Ao36 t191.length co36, .slice Ao37 t194.length co37, .slice Ao38 t197.length co38, .slice Ao39 t200.length co39] 26 (0, 0)) (by (with_reducible repeat (first | refine blk_drewN ?_ _ | refine blk_drew ?_ | refine blk_alloc ?_ _)); exact BK205.out) hb); have n12_ := Aside0.mk (blk_below (g := gb221) (o := .cells #[.int .i64 t206, .slice Ao45 t207.length co45, .slice Ao46 t210.length co46, .slice Ao47 t213.length co47, .slice Ao48 t216.length co48] 26 (0, 0)) (by (with_reducible repeat (first | refine blk_drewN ?_ _ | refine blk_drew ?_ | refine blk_alloc ?_ _)); exact BK221.out) hb); have n13_ := Aside0.mk (below_step (by repeat (first | (with_reducible first | exact HB.out | apply below_alloc | apply pw_below_drewN | apply below_drew1 | refine below_set ?_ GE186.out | refine below_set ?_ GE205.out | refine below_set ?_ GE221.out) | exact HB.out)) hb); clear HO193; clear HO196; clear HO199; clear HO202; clear HO209; clear HO212; clear HO215; clear HO218; clear HO224; clear HO228; clear BK186; clear BK205; clear BK221; clear HB; have HO193 := n0_; have HO196 := n1_; have HO199 := n2_; have HO202 := n3_; have HO209 := n4_; have HO212 := n5_; have HO215 := n6_; have HO218 := n7_; have HO224 := n8_; have HO228 := n9_; have BK186 := n10_; have BK205 := n11_; have BK221 := n12_; have HB := n13_; clear n0_ n1_ n2_ n3_ n4_ n5_ n6_ n7_ n8_ n9_ n10_ n11_ n12_ n13_; (try clear hb); (try clear hb2); (try clear hk); (try clear hi)))
                  go_meet
                  case rel => exact ⟨_, (true), (by first | rfl | (simp; done) | (simp [*]; done)), H', ⟨by have := HJ6.out; first | omega | exact Nat.le_refl _⟩, ⟨by (with_reducible repeat (first | apply Kd.R_alloc | apply Kd.R_drewN | apply Kd.R_drew)); exact Kd.R_mono HO224.out (fun _ hk => hk.2)⟩, ⟨by (with_reducible repeat (first | apply Kd.R_alloc | apply Kd.R_drewN | apply Kd.R_drew)); exact Kd.R_mono HO228.out (fun _ hk => hk.2)⟩, ⟨by (with_reducible repeat (first | apply Kd.R_alloc | apply Kd.R_drewN | apply Kd.R_drew)); exact Kd.R_mono HO193.out (fun _ hk => hk.2)⟩, ⟨by (with_reducible repeat (first | apply Kd.R_alloc | apply Kd.R_drewN | apply Kd.R_drew)); exact Kd.R_mono HO196.out (fun _ hk => hk.2)⟩, ⟨by (with_reducible repeat (first | apply Kd.R_alloc | apply Kd.R_drewN | apply Kd.R_drew)); exact Kd.R_mono HO199.out (fun _ hk => ⟨hk.1.1, ⟨hk.1.2, hk.2⟩⟩)⟩, ⟨by (with_reducible repeat (first | apply Kd.R_alloc | apply Kd.R_drewN | apply Kd.R_drew)); exact Kd.R_mono HO202.out (fun _ hk => ⟨hk.1.1, ⟨hk.1.2, hk.2⟩⟩)⟩, ⟨by (with_reducible repeat (first | apply Kd.R_alloc | apply Kd.R_drewN | apply Kd.R_drew)); exact Kd.R_mono HO209.out (fun _ hk => hk.2)⟩, ⟨by (with_reducible repeat (first | apply Kd.R_alloc | apply Kd.R_drewN | apply Kd.R_drew)); exact Kd.R_mono HO212.out (fun _ hk => hk.2)⟩, ⟨by (with_reducible repeat (first | apply Kd.R_alloc | apply Kd.R_drewN | apply Kd.R_drew)); exact Kd.R_mono HO215.out (fun _ hk => ⟨hk.1.2, ⟨hk.2, hk.1.1⟩⟩)⟩, ⟨by (with_reducible repeat (first | apply Kd.R_alloc | apply Kd.R_drewN | apply Kd.R_drew)); exact Kd.R_mono HO218.out (fun _ hk => ⟨hk.1.2, ⟨hk.2, hk.1.1⟩⟩)⟩, ⟨by (with_reducible repeat (first | refine blk_drewN ?_ _ | refine blk_drew ?_ | refine blk_alloc ?_ _)); exact BK186.out⟩, ⟨by (with_reducible repeat (first | refine blk_drewN ?_ _ | refine blk_drew ?_ | refine blk_alloc ?_ _)); exact BK205.out⟩, ⟨by (with_reducible repeat (first | refine blk_drewN ?_ _ | refine blk_drew ?_ | refine blk_alloc ?_ _)); exact BK221.out⟩, ⟨by repeat (first | (with_reducible first | exact HB.out | apply below_alloc | apply pw_below_drewN | apply below_drew1 | refine below_set ?_ GE186.out | refine below_set ?_ GE205.out | refine below_set ?_ GE221.out) | exact HB.out)⟩⟩
              · rw [if_neg c54] at H
                have c54b0 : (t219 == t203) = false := beq_eq_false_iff_ne.mpr c54
                have c54b1 : (t219 != t203) = true := bne_iff_ne.mpr c54
                have H' := Aside0.mk H
                clear H
                go_wp2
                go_meet
                case rel => exact ⟨_, (true), (by first | rfl | (simp; done) | (simp [*]; done)), H', ⟨by have := HJ6.out; first | omega | exact Nat.le_refl _⟩, ⟨by (with_reducible repeat (first | apply Kd.R_alloc | apply Kd.R_drewN | apply Kd.R_drew)); exact Kd.R_mono HO224.out (fun _ hk => hk.2)⟩, ⟨by (with_reducible repeat (first | apply Kd.R_alloc | apply Kd.R_drewN | apply Kd.R_drew)); exact Kd.R_mono HO228.out (fun _ hk => hk.2)⟩, ⟨by (with_reducible repeat (first | apply Kd.R_alloc | apply Kd.R_drewN | apply Kd.R_drew)); exact Kd.R_mono HO193.out (fun _ hk => hk.2)⟩, ⟨by (with_reducible repeat (first | apply Kd.R_alloc | apply Kd.R_drewN | apply Kd.R_drew)); exact Kd.R_mono HO196.out (fun _ hk => hk.2)⟩, ⟨by (with_reducible repeat (first | apply Kd.R_alloc | apply Kd.R_drewN | apply Kd.R_drew)); exact Kd.R_mono HO199.out (fun _ hk => ⟨hk.1.1, ⟨hk.1.2, hk.2⟩⟩)⟩, ⟨by (with_reducible repeat (first | apply Kd.R_alloc | apply Kd.R_drewN | apply Kd.R_drew)); exact Kd.R_mono HO202.out (fun _ hk => ⟨hk.1.1, ⟨hk.1.2, hk.2⟩⟩)⟩, ⟨by (with_reducible repeat (first | apply Kd.R_alloc | apply Kd.R_drewN | apply Kd.R_drew)); exact Kd.R_mono HO209.out (fun _ hk => hk.2)⟩, ⟨by (with_reducible repeat (first | apply Kd.R_alloc | apply Kd.R_drewN | apply Kd.R_drew)); exact Kd.R_mono HO212.out (fun _ hk => hk.2)⟩, ⟨by (with_reducible repeat (first | apply Kd.R_alloc | apply Kd.R_drewN | apply Kd.R_drew)); exact Kd.R_mono HO215.out (fun _ hk => ⟨hk.1.2, ⟨hk.2, hk.1.1⟩⟩)⟩, ⟨by (with_reducible repeat (first | apply Kd.R_alloc | apply Kd.R_drewN | apply Kd.R_drew)); exact Kd.R_mono HO218.out (fun _ hk => ⟨hk.1.2, ⟨hk.2, hk.1.1⟩⟩)⟩, ⟨by (with_reducible repeat (first | refine blk_drewN ?_ _ | refine blk_drew ?_ | refine blk_alloc ?_ _)); exact BK186.out⟩, ⟨by (with_reducible repeat (first | refine blk_drewN ?_ _ | refine blk_drew ?_ | refine blk_alloc ?_ _)); exact BK205.out⟩, ⟨by (with_reducible repeat (first | refine blk_drewN ?_ _ | refine blk_drew ?_ | refine blk_alloc ?_ _)); exact BK221.out⟩, ⟨by repeat (first | (with_reducible first | exact HB.out | apply below_alloc | apply pw_below_drewN | apply below_drew1 | refine below_set ?_ GE186.out | refine below_set ?_ GE205.out | refine below_set ?_ GE221.out) | exact HB.out)⟩⟩
            · rw [if_neg c53] at H
              have c53b0 : (t220 == 0) = false := beq_eq_false_iff_ne.mpr c53
              have c53b1 : (t220 != 0) = true := bne_iff_ne.mpr c53
              (first | rw [c53b0] | (simp only [i64_w, i32_w]; rw [c53b0]) | skip)
              have H' := Aside0.mk H
              clear H
              go_wp2
              go_meet
              case rel => exact ⟨_, (true), (by first | rfl | (simp; done) | (simp [*]; done)), H', ⟨by have := HJ6.out; first | omega | exact Nat.le_refl _⟩, ⟨by (with_reducible repeat (first | apply Kd.R_alloc | apply Kd.R_drewN | apply Kd.R_drew)); exact Kd.R_mono HO224.out (fun _ hk => hk.2)⟩, ⟨by (with_reducible repeat (first | apply Kd.R_alloc | apply Kd.R_drewN | apply Kd.R_drew)); exact Kd.R_mono HO228.out (fun _ hk => hk.2)⟩, ⟨by (with_reducible repeat (first | apply Kd.R_alloc | apply Kd.R_drewN | apply Kd.R_drew)); exact Kd.R_mono HO193.out (fun _ hk => hk.2)⟩, ⟨by (with_reducible repeat (first | apply Kd.R_alloc | apply Kd.R_drewN | apply Kd.R_drew)); exact Kd.R_mono HO196.out (fun _ hk => hk.2)⟩, ⟨by (with_reducible repeat (first | apply Kd.R_alloc | apply Kd.R_drewN | apply Kd.R_drew)); exact Kd.R_mono HO199.out (fun _ hk => ⟨hk.1.1, ⟨hk.1.2, hk.2⟩⟩)⟩, ⟨by (with_reducible repeat (first | apply Kd.R_alloc | apply Kd.R_drewN | apply Kd.R_drew)); exact Kd.R_mono HO202.out (fun _ hk => ⟨hk.1.1, ⟨hk.1.2, hk.2⟩⟩)⟩, ⟨by (with_reducible repeat (first | apply Kd.R_alloc | apply Kd.R_drewN | apply Kd.R_drew)); exact Kd.R_mono HO209.out (fun _ hk => hk.2)⟩, ⟨by (with_reducible repeat (first | apply Kd.R_alloc | apply Kd.R_drewN | apply Kd.R_drew)); exact Kd.R_mono HO212.out (fun _ hk => hk.2)⟩, ⟨by (with_reducible repeat (first | apply Kd.R_alloc | apply Kd.R_drewN | apply Kd.R_drew)); exact Kd.R_mono HO215.out (fun _ hk => ⟨hk.1.2, ⟨hk.2, hk.1.1⟩⟩)⟩, ⟨by (with_reducible repeat (first | apply Kd.R_alloc | apply Kd.R_drewN | apply Kd.R_drew)); exact Kd.R_mono HO218.out (fun _ hk => ⟨hk.1.2, ⟨hk.2, hk.1.1⟩⟩)⟩, ⟨by (with_reducible repeat (first | refine blk_drewN ?_ _ | refine blk_drew ?_ | refine blk_alloc ?_ _)); exact BK186.out⟩, ⟨by (with_reducible repeat (first | refine blk_drewN ?_ _ | refine blk_drew ?_ | refine blk_alloc ?_ _)); exact BK205.out⟩, ⟨by (with_reducible repeat (first | refine blk_drewN ?_ _ | refine blk_drew ?_ | refine blk_alloc ?_ _)); exact BK221.out⟩, ⟨by repeat (first | (with_reducible first | exact HB.out | apply below_alloc | apply pw_below_drewN | apply below_drew1 | refine below_set ?_ GE186.out | refine below_set ?_ GE205.out | refine below_set ?_ GE221.out) | exact HB.out)⟩⟩
          case rest =>
            clear HC30
            try clear c1
            try clear c2
            try clear p2
            try clear c3
            try clear c4
            try clear c5
            try clear c6
            try clear p6
            try clear c7
            try clear c8
            try clear q8
            try clear c9
            try clear c10
            try clear c11
            try clear c12
            try clear c14
            try clear c15
            try clear c15b0
            try clear c15b1
            try clear c24
            try clear c26
            try clear c26b0
            try clear c26b1
            try clear c34
            try clear c42
            try clear c43
            try clear c53
            try clear c53b0
            try clear c53b1
            try clear c54
            try clear c54b0
            try clear c54b1
            try clear c56
            try clear c57
            try clear c57b0
            try clear c57b1
            try clear c58
            try clear c58b0
            try clear c58b1
            try clear c59
            try clear c59b0
            try clear c59b1
            try clear c60
            try clear c61
            try clear c63
            try clear p64
            try clear c68
            try clear c68b0
            try clear c69
            try clear c70
            try clear c72
            try clear c77
            try clear c77b0
            try clear c77b1
            try clear c78
            try clear c78b0
            try clear c78b1
            try clear c80
            try clear c81
            try clear c83
            try clear q88
            try clear c89
            try clear c90
            try clear c92
            try clear c95
            try clear c96
            try clear c98
            try clear c101
            try clear c102
            try clear c104
            try clear hcz103_0
            try clear hcz103_1
            try clear hcz103_2
            try clear hcz103_3
            try clear hcz103_4
            try clear hcz105_0
            try clear hcz105_1
            try clear hcz105_2
            try clear hcz105_3
            try clear hcz105_4
            try clear hcz12_0
            try clear hcz12_1
            try clear hcz12_2
            try clear hcz12_3
            try clear hcz12_4
            try clear hcz16_0
            try clear hcz16_1
            try clear hcz16_2
            try clear hcz16_3
            try clear hcz16_4
            try clear hcz18_0
            try clear hcz18_1
            try clear hcz18_2
            try clear hcz18_3
            try clear hcz18_4
            try clear hcz20_0
            try clear hcz20_1
            try clear hcz20_2
            try clear hcz20_3
            try clear hcz20_4
            try clear hcz22_0
            try clear hcz22_1
            try clear hcz22_2
            try clear hcz22_3
            try clear hcz22_4
            try clear hcz31_0
            try clear hcz31_1
            try clear hcz31_2
            try clear hcz31_3
            try clear hcz31_4
            try clear hcz35_0
            try clear hcz35_1
            try clear hcz35_2
            try clear hcz35_3
            try clear hcz35_4
            try clear hcz44_0
            try clear hcz44_1
            try clear hcz44_2
            try clear hcz44_3
            try clear hcz44_4
            try clear hcz49_0
            try clear hcz49_1
            try clear hcz49_2
            try clear hcz49_3
            try clear hcz49_4
            try clear hcz51_0
            try clear hcz51_1
            try clear hcz51_2
            try clear hcz51_3
            try clear hcz51_4
            try clear hcz62_0
            try clear hcz62_1
            try clear hcz62_2
            try clear hcz62_3
            try clear hcz62_4
            try clear hcz64_0
            try clear hcz64_1
            try clear hcz64_2
            try clear hcz64_3
            try clear hcz64_4
            try clear hcz71_0
            try clear hcz71_1
            try clear hcz71_2
            try clear hcz71_3
            try clear hcz71_4
            try clear hcz73_0
            try clear hcz73_1
            try clear hcz73_2
            try clear hcz73_3
            try clear hcz73_4
            try clear hcz82_0
            try clear hcz82_1
            try clear hcz82_2
            try clear hcz82_3
            try clear hcz82_4
            try clear hcz84_0
            try clear hcz84_1
            try clear hcz84_2
            try clear hcz84_3
            try clear hcz84_4
            try clear hcz91_0
            try clear hcz91_1
            try clear hcz91_2
            try clear hcz91_3
            try clear hcz91_4
            try clear hcz93_0
            try clear hcz93_1
            try clear hcz93_2
            try clear hcz93_3
            try clear hcz93_4
            try clear hcz97_0
            try clear hcz97_1
            try clear hcz97_2
            try clear hcz97_3
            try clear hcz97_4
            try clear hcz99_0
            try clear hcz99_1
            try clear hcz99_2
            try clear hcz99_3
            try clear hcz99_4
            try clear hfz103_0
            try clear hfz103_1
            try clear hfz103_2
            try clear hfz103_3
            try clear hfz103_4
            try clear hfz105_0
            try clear hfz105_1
            try clear hfz105_2
            try clear hfz105_3
            try clear hfz105_4
            try clear hfz12_0
            try clear hfz12_1
            try clear hfz12_2
            try clear hfz12_3
            try clear hfz12_4
            try clear hfz16_0
            try clear hfz16_1
            try clear hfz16_2
            try clear hfz16_3
            try clear hfz16_4
            try clear hfz18_0
            try clear hfz18_1
            try clear hfz18_2
            try clear hfz18_3
            try clear hfz18_4
            try clear hfz20_0
            try clear hfz20_1
            try clear hfz20_2
            try clear hfz20_3
            try clear hfz20_4
            try clear hfz22_0
            try clear hfz22_1
            try clear hfz22_2
            try clear hfz22_3
            try clear hfz22_4
            try clear hfz31_0
            try clear hfz31_1
            try clear hfz31_2
            try clear hfz31_3
            try clear hfz31_4
            try clear hfz35_0
            try clear hfz35_1
            try clear hfz35_2
            try clear hfz35_3
            try clear hfz35_4
            try clear hfz44_0
            try clear hfz44_1
            try clear hfz44_2
            try clear hfz44_3
            try clear hfz44_4
            try clear hfz49_0
            try clear hfz49_1
            try clear hfz49_2
            try clear hfz49_3
            try clear hfz49_4
            try clear hfz51_0
            try clear hfz51_1
            try clear hfz51_2
            try clear hfz51_3
            try clear hfz51_4
            try clear hfz62_0
            try clear hfz62_1
            try clear hfz62_2
            try clear hfz62_3
            try clear hfz62_4
            try clear hfz64_0
            try clear hfz64_1
            try clear hfz64_2
            try clear hfz64_3
            try clear hfz64_4
            try clear hfz71_0
            try clear hfz71_1
            try clear hfz71_2
            try clear hfz71_3
            try clear hfz71_4
            try clear hfz73_0
            try clear hfz73_1
            try clear hfz73_2
            try clear hfz73_3
            try clear hfz73_4
            try clear hfz82_0
            try clear hfz82_1
            try clear hfz82_2
            try clear hfz82_3
            try clear hfz82_4
            try clear hfz84_0
            try clear hfz84_1
            try clear hfz84_2
            try clear hfz84_3
            try clear hfz84_4
            try clear hfz91_0
            try clear hfz91_1
            try clear hfz91_2
            try clear hfz91_3
            try clear hfz91_4
            try clear hfz93_0
            try clear hfz93_1
            try clear hfz93_2
            try clear hfz93_3
            try clear hfz93_4
            try clear hfz97_0
            try clear hfz97_1
            try clear hfz97_2
            try clear hfz97_3
            try clear hfz97_4
            try clear hfz99_0
            try clear hfz99_1
            try clear hfz99_2
            try clear hfz99_3
            try clear hfz99_4
            try clear p2
            try clear q88
            obtain ⟨kq, x120_29, rfl, HA, HJ29, HO_18, HO_20, HO_206001, HO_206002, HO_206003, HO_206004, HO_222001, HO_222002, HO_222003, HO_222004, BK186, BK205, BK221, HB⟩ := hcut
            cases kq with
            | zero => exact absurd HA.out (by simp [spiritlevellaw26_HashGate.j1])
            | succ kj29 =>
              have H := HA.out
              clear HA
              simp only [spiritlevellaw26_HashGate.j1] at H
              by_cases c107 : x120_29 = true
              · subst c107
                have H1 : (some false) = some r := by rw [if_pos rfl] at H; exact H
                clear H
                have H := H1
                clear H1
                exact absurd ((Option.some.inj H).trans HTR_.out) (by decide)
              · replace c107 := Bool.eq_false_iff.mpr c107
                subst c107
                have H1 : ((values_Of.f t222 a1).bind fun bt236 => ((values_Of.f t222 a2).bind fun bt238 => ((values_Of.f t226 t203).bind fun bt240 => (if t187 = true then (if bt236.2 = 0 then (if bt238.2 = 0 then (if bt240.2 = 0 then (if bt236.1 = true then (some (bt240.1 == bt238.1)) else (some (bt240.1 == false))) else (some false)) else (some false)) else (some false)) else (some false))))) = some r := by rw [if_neg (show ¬ (false = true) by decide)] at H; exact H
                clear H
                have H := H1
                clear H1
                replace H := Option.bind_eq_some_iff.mp H
                obtain ⟨⟨t236, t237⟩, A1080, H⟩ := H
                replace H : ((values_Of.f t222 a2).bind fun bt238 => ((values_Of.f t226 t203).bind fun bt240 => (if t187 = true then (if t237 = 0 then (if bt238.2 = 0 then (if bt240.2 = 0 then (if t236 = true then (some (bt240.1 == bt238.1)) else (some (bt240.1 == false))) else (some false)) else (some false)) else (some false)) else (some false)))) = some r := H
                have A108 := Aside0.mk A1080
                clear A1080
                replace H := Option.bind_eq_some_iff.mp H
                obtain ⟨⟨t238, t239⟩, A1090, H⟩ := H
                replace H : ((values_Of.f t226 t203).bind fun bt240 => (if t187 = true then (if t237 = 0 then (if t239 = 0 then (if bt240.2 = 0 then (if t236 = true then (some (bt240.1 == t238)) else (some (bt240.1 == false))) else (some false)) else (some false)) else (some false)) else (some false))) = some r := H
                have A109 := Aside0.mk A1090
                clear A1090
                replace H := Option.bind_eq_some_iff.mp H
                obtain ⟨⟨t240, t241⟩, A1100, H⟩ := H
                replace H : (if t187 = true then (if t237 = 0 then (if t239 = 0 then (if t241 = 0 then (if t236 = true then (some (t240 == t238)) else (some (t240 == false))) else (some false)) else (some false)) else (some false)) else (some false)) = some r := H
                have A110 := Aside0.mk A1100
                clear A1100
                by_cases c111 : t187 = true
                · subst c111
                  have H1 : (if t237 = 0 then (if t239 = 0 then (if t241 = 0 then (if t236 = true then (some (t240 == t238)) else (some (t240 == false))) else (some false)) else (some false)) else (some false)) = some r := by rw [if_pos rfl] at H; exact H
                  clear H
                  have H := H1
                  clear H1
                  by_cases c112 : t237 = 0
                  · rw [if_pos c112] at H
                    have c112b0 : (t237 == 0) = true := beq_iff_eq.mpr c112
                    have c112b1 : (t237 != 0) = false := bne_eq_false_iff_eq.mpr c112
                    clear c112
                    by_cases c113 : t239 = 0
                    · rw [if_pos c113] at H
                      have c113b0 : (t239 == 0) = true := beq_iff_eq.mpr c113
                      have c113b1 : (t239 != 0) = false := bne_eq_false_iff_eq.mpr c113
                      clear c113
                      by_cases c114 : t241 = 0
                      · rw [if_pos c114] at H
                        have c114b0 : (t241 == 0) = true := beq_iff_eq.mpr c114
                        have c114b1 : (t241 != 0) = false := bne_eq_false_iff_eq.mpr c114
                        clear c114
                        by_cases c115 : t236 = true
                        · subst c115
                          have H1 : (some (t240 == t238)) = some r := by rw [if_pos rfl] at H; exact H
                          clear H
                          have H := H1
                          clear H1
                          obtain rfl := Option.some.inj H
                          obtain ⟨Ao116, co116, eo116⟩ := Kd.R_slice HO_18.out
                          subst eo116
                          go_wp2_with (first | ((with_reducible refine gate_callee (f := 16) rfl ?_); refine goesL_ (some 124) rfl rfl Try.func16 (by kernel_rfl) rfl #[.slice Ao116 t222.length co116, .int .i64 a1] rfl (by (try simp only [List.map_toArray, List.map_cons, List.map_nil]); first | done | rfl | (simp only [List.length_drop, List.length_take]; rfl)) ?_; (with_reducible refine (values_Of.calls _ _ t222 a1 true t237 _ ?side1 ?side2 A108.out).mono ?_); (case side1 => repeat (first | exact (Kd.R_reads' HO_18.out).2.2 | (with_reducible refine Kd.C_alloc ?_ _) | (with_reducible refine Kd.C_drewN ?_ _) | (with_reducible refine Kd.C_drew ?_))); (case side2 => exact (Kd.R_reads' HO_18.out).2.1); rintro e w' ⟨rfl, ⟨nd, rfl⟩⟩; refine ⟨_, rfl, ?_⟩) | ((with_reducible refine gate_callee (f := 16) rfl ?_); refine goesL_ (some 130) rfl rfl Try.func16 (by kernel_rfl) rfl #[.slice Ao116 t222.length co116, .int .i64 a2] rfl (by (try simp only [List.map_toArray, List.map_cons, List.map_nil]); first | done | rfl | (simp only [List.length_drop, List.length_take]; rfl)) ?_; (with_reducible refine (values_Of.calls _ _ t222 a2 t238 t239 _ ?side1 ?side2 A109.out).mono ?_); (case side1 => repeat (first | exact (Kd.R_reads' HO_18.out).2.2 | (with_reducible refine Kd.C_alloc ?_ _) | (with_reducible refine Kd.C_drewN ?_ _) | (with_reducible refine Kd.C_drew ?_))); (case side2 => exact (Kd.R_reads' HO_18.out).2.1); rintro e w' ⟨rfl, ⟨nd, rfl⟩⟩; refine ⟨_, rfl, ?_⟩; obtain ⟨Ao117, co117, eo117⟩ := Kd.R_slice HO_20.out; subst eo117) | ((with_reducible refine gate_callee (f := 16) rfl ?_); refine goesL_ (some 136) rfl rfl Try.func16 (by kernel_rfl) rfl #[.slice Ao117 t226.length co117, .int .i64 t203] rfl (by (try simp only [List.map_toArray, List.map_cons, List.map_nil]); first | done | rfl | (simp only [List.length_drop, List.length_take]; rfl)) ?_; (with_reducible refine (values_Of.calls _ _ t226 t203 t240 t241 _ ?side1 ?side2 A110.out).mono ?_); (case side1 => repeat (first | exact (Kd.R_reads' HO_20.out).2.2 | (with_reducible refine Kd.C_alloc ?_ _) | (with_reducible refine Kd.C_drewN ?_ _) | (with_reducible refine Kd.C_drew ?_))); (case side2 => exact (Kd.R_reads' HO_20.out).2.1); rintro e w' ⟨rfl, ⟨nd, rfl⟩⟩; refine ⟨_, rfl, ?_⟩))
                          go_ret
                          exact ⟨by first | rfl | (simp [errW_none, errW_some] <;> rfl) | (simp [*, errW_none, errW_some] <;> rfl), by repeat (first | (with_reducible first | exact HB.out | apply below_alloc | apply pw_below_drewN | apply below_drew1 | refine below_set ?_ GE186.out | refine below_set ?_ GE205.out | refine below_set ?_ GE221.out) | exact HB.out)⟩
                        · replace c115 := Bool.eq_false_iff.mpr c115
                          subst c115
                          have H1 : (some (t240 == false)) = some r := by rw [if_neg (show ¬ (false = true) by decide)] at H; exact H
                          clear H
                          have H := H1
                          clear H1
                          obtain rfl := Option.some.inj H
                          obtain ⟨Ao118, co118, eo118⟩ := Kd.R_slice HO_18.out
                          subst eo118
                          go_wp2_with (first | ((with_reducible refine gate_callee (f := 16) rfl ?_); refine goesL_ (some 124) rfl rfl Try.func16 (by kernel_rfl) rfl #[.slice Ao118 t222.length co118, .int .i64 a1] rfl (by (try simp only [List.map_toArray, List.map_cons, List.map_nil]); first | done | rfl | (simp only [List.length_drop, List.length_take]; rfl)) ?_; (with_reducible refine (values_Of.calls _ _ t222 a1 false t237 _ ?side1 ?side2 A108.out).mono ?_); (case side1 => repeat (first | exact (Kd.R_reads' HO_18.out).2.2 | (with_reducible refine Kd.C_alloc ?_ _) | (with_reducible refine Kd.C_drewN ?_ _) | (with_reducible refine Kd.C_drew ?_))); (case side2 => exact (Kd.R_reads' HO_18.out).2.1); rintro e w' ⟨rfl, ⟨nd, rfl⟩⟩; refine ⟨_, rfl, ?_⟩) | ((with_reducible refine gate_callee (f := 16) rfl ?_); refine goesL_ (some 130) rfl rfl Try.func16 (by kernel_rfl) rfl #[.slice Ao118 t222.length co118, .int .i64 a2] rfl (by (try simp only [List.map_toArray, List.map_cons, List.map_nil]); first | done | rfl | (simp only [List.length_drop, List.length_take]; rfl)) ?_; (with_reducible refine (values_Of.calls _ _ t222 a2 t238 t239 _ ?side1 ?side2 A109.out).mono ?_); (case side1 => repeat (first | exact (Kd.R_reads' HO_18.out).2.2 | (with_reducible refine Kd.C_alloc ?_ _) | (with_reducible refine Kd.C_drewN ?_ _) | (with_reducible refine Kd.C_drew ?_))); (case side2 => exact (Kd.R_reads' HO_18.out).2.1); rintro e w' ⟨rfl, ⟨nd, rfl⟩⟩; refine ⟨_, rfl, ?_⟩; obtain ⟨Ao119, co119, eo119⟩ := Kd.R_slice HO_20.out; subst eo119) | ((with_reducible refine gate_callee (f := 16) rfl ?_); refine goesL_ (some 136) rfl rfl Try.func16 (by kernel_rfl) rfl #[.slice Ao119 t226.length co119, .int .i64 t203] rfl (by (try simp only [List.map_toArray, List.map_cons, List.map_nil]); first | done | rfl | (simp only [List.length_drop, List.length_take]; rfl)) ?_; (with_reducible refine (values_Of.calls _ _ t226 t203 t240 t241 _ ?side1 ?side2 A110.out).mono ?_); (case side1 => repeat (first | exact (Kd.R_reads' HO_20.out).2.2 | (with_reducible refine Kd.C_alloc ?_ _) | (with_reducible refine Kd.C_drewN ?_ _) | (with_reducible refine Kd.C_drew ?_))); (case side2 => exact (Kd.R_reads' HO_20.out).2.1); rintro e w' ⟨rfl, ⟨nd, rfl⟩⟩; refine ⟨_, rfl, ?_⟩))
                          go_ret
                          exact ⟨by first | rfl | (simp [errW_none, errW_some] <;> rfl) | (simp [*, errW_none, errW_some] <;> rfl), by repeat (first | (with_reducible first | exact HB.out | apply below_alloc | apply pw_below_drewN | apply below_drew1 | refine below_set ?_ GE186.out | refine below_set ?_ GE205.out | refine below_set ?_ GE221.out) | exact HB.out)⟩
                      · rw [if_neg c114] at H
                        have c114b0 : (t241 == 0) = false := beq_eq_false_iff_ne.mpr c114
                        have c114b1 : (t241 != 0) = true := bne_iff_ne.mpr c114
                        exact absurd ((Option.some.inj H).trans HTR_.out) (by decide)
                    · rw [if_neg c113] at H
                      have c113b0 : (t239 == 0) = false := beq_eq_false_iff_ne.mpr c113
                      have c113b1 : (t239 != 0) = true := bne_iff_ne.mpr c113
                      exact absurd ((Option.some.inj H).trans HTR_.out) (by decide)
                  · rw [if_neg c112] at H
                    have c112b0 : (t237 == 0) = false := beq_eq_false_iff_ne.mpr c112
                    have c112b1 : (t237 != 0) = true := bne_iff_ne.mpr c112
                    exact absurd ((Option.some.inj H).trans HTR_.out) (by decide)
                · replace c111 := Bool.eq_false_iff.mpr c111
                  subst c111
                  have H1 : (some false) = some r := by rw [if_neg (show ¬ (false = true) by decide)] at H; exact H
                  clear H
                  have H := H1
                  clear H1
                  exact absurd ((Option.some.inj H).trans HTR_.out) (by decide)
        · rw [if_neg c26] at H
          have c26b0 : (t204 == 0) = false := beq_eq_false_iff_ne.mpr c26
          have c26b1 : (t204 != 0) = true := bne_iff_ne.mpr c26
          obtain rfl := Option.some.inj H
          have hcz120_0 : wc.cell? ⟨gb186, 0, none⟩ = some (.int .i64 a0_0) := (blk_cell BK186.out 0).trans rfl
          have hcz120_1 : wc.cell? ⟨gb186, 1, none⟩ = some (.slice A0_1 l0_1.length c0_1) := (blk_cell BK186.out 1).trans rfl
          have hcz120_2 : wc.cell? ⟨gb186, 2, none⟩ = some (.slice A0_2 l0_2.length c0_2) := (blk_cell BK186.out 2).trans rfl
          have hcz120_3 : wc.cell? ⟨gb186, 3, none⟩ = some (.slice A0_3 l0_3.length c0_3) := (blk_cell BK186.out 3).trans rfl
          have hcz120_4 : wc.cell? ⟨gb186, 4, none⟩ = some (.slice A0_4 l0_4.length c0_4) := (blk_cell BK186.out 4).trans rfl
          have hfz120_0 := blk_frozen BK186.out 0
          have hfz120_1 := blk_frozen BK186.out 1
          have hfz120_2 := blk_frozen BK186.out 2
          have hfz120_3 := blk_frozen BK186.out 3
          have hfz120_4 := blk_frozen BK186.out 4
          go_wp2_with (first | ((with_reducible refine gate_callee (f := 9) rfl ?_); refine goesL_ (some 47) rfl rfl Try.func9 (by kernel_rfl) rfl #[.agg #[.int .i64 a0_0, .slice A0_1 l0_1.length c0_1, .slice A0_2 l0_2.length c0_2, .slice A0_3 l0_3.length c0_3, .slice A0_4 l0_4.length c0_4], .int .i64 a1, .int .i64 a2] rfl (by (try simp only [List.map_toArray, List.map_cons, List.map_nil]); first | done | rfl | (simp only [List.length_drop, List.length_take]; rfl)) ?_; (with_reducible refine (hash_Gate.calls a0_0 _ _ l0_1 _ _ l0_2 _ _ l0_3 _ _ l0_4 a1 a2 t190 t191 t194 t197 t200 t203 t204 _ ?side1 ?side2 ?side3 ?side4 ?side5 ?side6 ?side7 ?side8 A25.out).mono ?_); (case side1 => repeat (first | exact (Kd.C_below HR0_1.out HB.out) | (with_reducible refine Kd.C_alloc ?_ _) | (with_reducible refine Kd.C_drewN ?_ _) | (with_reducible refine Kd.C_drew ?_))); (case side2 => exact HC0_1.out); (case side3 => repeat (first | exact (Kd.C_below HR0_2.out HB.out) | (with_reducible refine Kd.C_alloc ?_ _) | (with_reducible refine Kd.C_drewN ?_ _) | (with_reducible refine Kd.C_drew ?_))); (case side4 => exact HC0_2.out); (case side5 => repeat (first | exact (Kd.C_below HR0_3.out HB.out) | (with_reducible refine Kd.C_alloc ?_ _) | (with_reducible refine Kd.C_drewN ?_ _) | (with_reducible refine Kd.C_drew ?_))); (case side6 => exact HC0_3.out); (case side7 => repeat (first | exact (Kd.C_below HR0_4.out HB.out) | (with_reducible refine Kd.C_alloc ?_ _) | (with_reducible refine Kd.C_drewN ?_ _) | (with_reducible refine Kd.C_drew ?_))); (case side8 => exact HC0_4.out); rintro e w121 ⟨v192, v195, v198, v201, rfl, ho0, ho1, ho2, ho3, hb⟩; refine ⟨_, rfl, ?_⟩; have n0_ := Aside0.mk (Kd.R_lower ho0 (below_size (by repeat (first | (with_reducible first | exact HB.out | apply below_alloc | apply pw_below_drewN | apply below_drew1 | refine below_set ?_ GE186.out) | exact HB.out)))); have n1_ := Aside0.mk (Kd.R_lower ho1 (below_size (by repeat (first | (with_reducible first | exact HB.out | apply below_alloc | apply pw_below_drewN | apply below_drew1 | refine below_set ?_ GE186.out) | exact HB.out)))); have n2_ := Aside0.mk (Kd.R_lower ho2 (below_size (by repeat (first | (with_reducible first | exact HB.out | apply below_alloc | apply pw_below_drewN | apply below_drew1 | refine below_set ?_ GE186.out) | exact HB.out)))); have n3_ := Aside0.mk (Kd.R_lower ho3 (below_size (by repeat (first | (with_reducible first | exact HB.out | apply below_alloc | apply pw_below_drewN | apply below_drew1 | refine below_set ?_ GE186.out) | exact HB.out)))); have n4_ := Aside0.mk (blk_below (g := gb186) (o := .cells #[.int .i64 a0_0, .slice A0_1 l0_1.length c0_1, .slice A0_2 l0_2.length c0_2, .slice A0_3 l0_3.length c0_3, .slice A0_4 l0_4.length c0_4] 26 (0, 0)) (by (with_reducible repeat (first | refine blk_drewN ?_ _ | refine blk_drew ?_ | refine blk_alloc ?_ _)); exact BK186.out) hb); have n5_ := Aside0.mk (below_step (by repeat (first | (with_reducible first | exact HB.out | apply below_alloc | apply pw_below_drewN | apply below_drew1 | refine below_set ?_ GE186.out) | exact HB.out)) hb); clear BK186; clear HB; have HO193 := n0_; have HO196 := n1_; have HO199 := n2_; have HO202 := n3_; have BK186 := n4_; have HB := n5_; clear n0_ n1_ n2_ n3_ n4_ n5_; (try clear hb); (try clear hb2); (try clear hk); (try clear hi); (try clear ho0); (try clear ho1); (try clear ho2); (try clear ho3)) | ((with_reducible refine gate_dst (N := 12) rfl ?_); (try (refine gate_guard (by rfl) ?_; dsimp only)); refine box_event ?hg (N := 12) ?hd (cs := #[.int .i64 0, .slice none 0 0, .slice none 0 0, .slice none 0 0, .slice none 0 0]) (t := 26) ?hr ?_; (case hd => rfl); (case hg => rfl); (case hr => first | (go_simp; done) | (go_simp; rfl)); intro gb205 hg w122 hbox hb; have n0_ := Aside0.mk (Kd.R_below (by (with_reducible repeat (first | apply Kd.R_alloc | apply Kd.R_drewN | apply Kd.R_drew)); exact HO193.out) hb); have n1_ := Aside0.mk (Kd.R_below (by (with_reducible repeat (first | apply Kd.R_alloc | apply Kd.R_drewN | apply Kd.R_drew)); exact HO196.out) hb); have n2_ := Aside0.mk (Kd.R_below (by (with_reducible repeat (first | apply Kd.R_alloc | apply Kd.R_drewN | apply Kd.R_drew)); exact HO199.out) hb); have n3_ := Aside0.mk (Kd.R_below (by (with_reducible repeat (first | apply Kd.R_alloc | apply Kd.R_drewN | apply Kd.R_drew)); exact HO202.out) hb); have n4_ := Aside0.mk (blk_below (g := gb186) (o := .cells #[.int .i64 a0_0, .slice A0_1 l0_1.length c0_1, .slice A0_2 l0_2.length c0_2, .slice A0_3 l0_3.length c0_3, .slice A0_4 l0_4.length c0_4] 26 (0, 0)) (by (with_reducible repeat (first | refine blk_drewN ?_ _ | refine blk_drew ?_ | refine blk_alloc ?_ _)); exact BK186.out) hb); have n5_ := Aside0.mk (below_step (by repeat (first | (with_reducible first | exact HB.out | apply below_alloc | apply pw_below_drewN | apply below_drew1 | refine below_set ?_ GE186.out) | exact HB.out)) hb); have n6_ := Aside0.mk (hbox); have n7_ := Aside0.mk ((by rw [hg]; exact (below_size (by repeat (first | (with_reducible first | exact HB.out | apply below_alloc | apply pw_below_drewN | apply below_drew1 | refine below_set ?_ GE186.out) | exact HB.out))) : w.heap.size ≤ gb205)); have n8_ := Aside0.mk ((by rw [hg]; exact (below_size (by repeat (first | (with_reducible first | exact HB.out | apply below_alloc | apply pw_below_drewN | apply below_drew1 | refine below_set ?_ GE186.out) | exact HB.out))) : w.heap.size ≤ gb205)); have n9_ := Aside0.mk ((by rw [hg]; exact Nat.ne_of_lt (blk_lt (g := gb186) (o := .cells #[.int .i64 a0_0, .slice A0_1 l0_1.length c0_1, .slice A0_2 l0_2.length c0_2, .slice A0_3 l0_3.length c0_3, .slice A0_4 l0_4.length c0_4] 26 (0, 0)) (by (with_reducible repeat (first | refine blk_drewN ?_ _ | refine blk_drew ?_ | refine blk_alloc ?_ _)); exact BK186.out)) : gb186 ≠ gb205)); have n10_ := Aside0.mk ((by rw [hg]; exact Nat.ne_of_gt (blk_lt (g := gb186) (o := .cells #[.int .i64 a0_0, .slice A0_1 l0_1.length c0_1, .slice A0_2 l0_2.length c0_2, .slice A0_3 l0_3.length c0_3, .slice A0_4 l0_4.length c0_4] 26 (0, 0)) (by (with_reducible repeat (first | refine blk_drewN ?_ _ | refine blk_drew ?_ | refine blk_alloc ?_ _)); exact BK186.out)) : gb205 ≠ gb186)); clear HO193; clear HO196; clear HO199; clear HO202; clear BK186; clear HB; have HO193 := n0_; have HO196 := n1_; have HO199 := n2_; have HO202 := n3_; have BK186 := n4_; have HB := n5_; have BK205 := n6_; have GW205 := n7_; have GE205 := n8_; have NB186_205 := n9_; have NB205_186 := n10_; clear n0_ n1_ n2_ n3_ n4_ n5_ n6_ n7_ n8_ n9_ n10_; clear hb hbox hg; have hnb123 := NB205_186.out; have hnc123 := NB186_205.out; have hcz124_0 : w122.cell? ⟨gb205, 0, none⟩ = some (.int .i64 0) := (blk_cell BK205.out 0).trans rfl; have hcz124_1 : w122.cell? ⟨gb205, 1, none⟩ = some (.slice none 0 0) := (blk_cell BK205.out 1).trans rfl; have hcz124_2 : w122.cell? ⟨gb205, 2, none⟩ = some (.slice none 0 0) := (blk_cell BK205.out 2).trans rfl; have hcz124_3 : w122.cell? ⟨gb205, 3, none⟩ = some (.slice none 0 0) := (blk_cell BK205.out 3).trans rfl; have hcz124_4 : w122.cell? ⟨gb205, 4, none⟩ = some (.slice none 0 0) := (blk_cell BK205.out 4).trans rfl; have hfz124_0 := blk_frozen BK205.out 0; have hfz124_1 := blk_frozen BK205.out 1; have hfz124_2 := blk_frozen BK205.out 2; have hfz124_3 := blk_frozen BK205.out 3; have hfz124_4 := blk_frozen BK205.out 4; obtain ⟨Ao125, co125, eo125⟩ := Kd.R_slice HO193.out; subst eo125; obtain ⟨Ao126, co126, eo126⟩ := Kd.R_slice HO196.out; subst eo126; obtain ⟨Ao127, co127, eo127⟩ := Kd.R_slice HO199.out; subst eo127; obtain ⟨Ao128, co128, eo128⟩ := Kd.R_slice HO202.out; subst eo128))
          go_ret
          exact ⟨by first | rfl | (simp [errW_none, errW_some] <;> rfl) | (simp [*, errW_none, errW_some] <;> rfl), by repeat (first | (with_reducible first | exact HB.out | apply below_alloc | apply pw_below_drewN | apply below_drew1 | refine below_set ?_ GE186.out | refine below_set ?_ GE205.out) | exact HB.out)⟩

/-- THE ONE PURE STATEMENT of spiritlevellaw26_HashGate. -/
def spiritlevellaw26_HashGate.Pure : Prop := ∀ (a0_0 : Int) (l0_1 : List (S86)) (l0_2 : List (S67)) (l0_3 : List Int) (l0_4 : List Int) (a1 : Int) (a2 : Int) (l3 : List Bool) (l4 : List Bool), ((Lit.int .i64 a0_0).wf = true) → (l0_1.length ≤ 9223372036854775807 ∧ l0_1.length * 16 ≤ 140737488351232 ∧ ∀ x0_ ∈ l0_1, ((Lit.int .i64 x0_.f0).wf = true) ∧ ((Lit.int .i64 x0_.f1).wf = true)) → (l0_2.length ≤ 9223372036854775807 ∧ l0_2.length * 16 ≤ 140737488351232 ∧ ∀ x0_ ∈ l0_2, ((Lit.int .i64 x0_.f0).wf = true) ∧ ((Lit.int .i64 x0_.f1).wf = true)) → (l0_3.length ≤ 9223372036854775807 ∧ l0_3.length * 8 ≤ 140737488351232 ∧ ∀ x0_ ∈ l0_3, (Lit.int .i64 x0_).wf = true) → (l0_4.length ≤ 9223372036854775807 ∧ l0_4.length * 8 ≤ 140737488351232 ∧ ∀ x0_ ∈ l0_4, (Lit.int .i64 x0_).wf = true) → ((Lit.int .i64 a1).wf = true) → ((Lit.int .i64 a2).wf = true) → (l3.length ≤ 9223372036854775807 ∧ l3.length * 1 ≤ 140737488351232 ∧ ∀ x0_ ∈ l3, True) → (l4.length ≤ 9223372036854775807 ∧ l4.length * 1 ≤ 140737488351232 ∧ ∀ x0_ ∈ l4, True) → ∃ k, spiritlevellaw26_HashGate.f k a0_0 l0_1 l0_2 l0_3 l0_4 a1 a2 l3 l4 = some true
theorem spiritlevellaw26_HashGate.walk (P : spiritlevellaw26_HashGate.Pure) (a0_0 : Int) (A0_1 : Option Addr) (c0_1 : Nat) (l0_1 : List (S86)) (A0_2 : Option Addr) (c0_2 : Nat) (l0_2 : List (S67)) (A0_3 : Option Addr) (c0_3 : Nat) (l0_3 : List Int) (A0_4 : Option Addr) (c0_4 : Nat) (l0_4 : List Int) (a1 : Int) (a2 : Int) (A3 : Option Addr) (c3 : Nat) (l3 : List Bool) (A4 : Option Addr) (c4 : Nat) (l4 : List Bool) (w : World) (hr0_1 : Kd.C k86 w A0_1 l0_1.length l0_1) (hc0_1 : l0_1.length ≤ c0_1) (hr0_2 : Kd.C k67 w A0_2 l0_2.length l0_2) (hc0_2 : l0_2.length ≤ c0_2) (hr0_3 : Kd.C (Kd.int .i64) w A0_3 l0_3.length l0_3) (hc0_3 : l0_3.length ≤ c0_3) (hr0_4 : Kd.C (Kd.int .i64) w A0_4 l0_4.length l0_4) (hc0_4 : l0_4.length ≤ c0_4) (hr3 : Kd.C Kd.bool w A3 l3.length l3) (hc3 : l3.length ≤ c3) (hr4 : Kd.C Kd.bool w A4 l4.length l4) (hc4 : l4.length ≤ c4) (ok0_0 : (Lit.int .i64 a0_0).wf = true) (ok0_1 : l0_1.length ≤ 9223372036854775807 ∧ l0_1.length * 16 ≤ 140737488351232 ∧ ∀ x0_ ∈ l0_1, ((Lit.int .i64 x0_.f0).wf = true) ∧ ((Lit.int .i64 x0_.f1).wf = true)) (ok0_2 : l0_2.length ≤ 9223372036854775807 ∧ l0_2.length * 16 ≤ 140737488351232 ∧ ∀ x0_ ∈ l0_2, ((Lit.int .i64 x0_.f0).wf = true) ∧ ((Lit.int .i64 x0_.f1).wf = true)) (ok0_3 : l0_3.length ≤ 9223372036854775807 ∧ l0_3.length * 8 ≤ 140737488351232 ∧ ∀ x0_ ∈ l0_3, (Lit.int .i64 x0_).wf = true) (ok0_4 : l0_4.length ≤ 9223372036854775807 ∧ l0_4.length * 8 ≤ 140737488351232 ∧ ∀ x0_ ∈ l0_4, (Lit.int .i64 x0_).wf = true) (ok1 : (Lit.int .i64 a1).wf = true) (ok2 : (Lit.int .i64 a2).wf = true) (ok3 : l3.length ≤ 9223372036854775807 ∧ l3.length * 1 ≤ 140737488351232 ∧ ∀ x0_ ∈ l3, True) (ok4 : l4.length ≤ 9223372036854775807 ∧ l4.length * 1 ≤ 140737488351232 ∧ ∀ x0_ ∈ l4, True) :
    Calls Try.prog 4 #[.agg #[.int .i64 a0_0, .slice A0_1 l0_1.length c0_1, .slice A0_2 l0_2.length c0_2, .slice A0_3 l0_3.length c0_3, .slice A0_4 l0_4.length c0_4], .int .i64 a1, .int .i64 a2, .slice A3 l3.length c3, .slice A4 l4.length c4] w fun e w' => e = .returned (.bool true) ∧ Below w.heap.size w w' := by
  obtain ⟨k, h⟩ := P a0_0 l0_1 l0_2 l0_3 l0_4 a1 a2 l3 l4 ok0_0 ok0_1 ok0_2 ok0_3 ok0_4 ok1 ok2 ok3 ok4
  refine (spiritlevellaw26_HashGate.calls k a0_0 A0_1 c0_1 l0_1 A0_2 c0_2 l0_2 A0_3 c0_3 l0_3 A0_4 c0_4 l0_4 a1 a2 A3 c3 l3 A4 c4 l4 true w hr0_1 hc0_1 hr0_2 hc0_2 hr0_3 hc0_3 hr0_4 hc0_4 hr3 hc3 hr4 hc4 rfl h).mono ?_
  rintro e w' ⟨rfl, hd⟩
  exact ⟨rfl, hd⟩

end Go.Proofs.Ytnbccfecmpocaaa.QHashGate
