-- Made by wip/myprint.sh (a patched print): a text of this session's own.
import Derived.Test.YtmcdanpecajklaaLay
import Derived.Test.YtmcdanpecajklaaQTernsimValuesx0
import Derived.Test.YtmcdanpecajklaaQTernsimValuesx1
import Derived.Test.YtmcdanpecajklaaQTernsimValuesx3
import Derived.Test.YtmcdanpecajklaaQTernsimValuesx4
namespace Go.Proofs.Ytmcdanpecajklaa.QTernsimValues
open Go.RowKit Go.Proofs.YtmcdanpecajklaaW.PrintWords Go.Proofs.YtmcdanpecajklaaW.PrintLast Go.Proofs.YtmcdanpecajklaaW.PrintMore
attribute [local go_sem] max2_int min2_int max_two min_two max_three min_three max_four min_four
set_option linter.unusedVariables false
set_option linter.unusedSimpArgs false

mutual
def ternsim_given.l0 : Nat → List (List Int) → List Int → Int → Int → Int → List (S36) → List (S69) → List Int → List Int → Option (List Int)
 | 0, _, _, _, _, _, _, _, _, _ => none
 | k + 1, x1, x5, x14, x15, x164000, x164001, x164002, x164003, x164004 => if x15 < x14 then ((ternsim_constant.f k x1 x15).bind fun t167 => (if 0 ≤ x15 then (if x15 < (x5.length : Int) then (ternsim_given.l1 k x1 (x5.set (x15 : Int).toNat t167) x15 0 x14 x15 x164000 x164001 x164002 x164003 x164004) else (none)) else (none))) else (some x5)
def ternsim_given.l1 : Nat → List (List Int) → List Int → Int → Int → Int → Int → Int → List (S36) → List (S69) → List Int → List Int → Option (List Int)
 | 0, _, _, _, _, _, _, _, _, _, _, _ => none
 | k + 1, x1, x5, x6, x7, x14, x15, x164000, x164001, x164002, x164003, x164004 => if x7 < x6 then (if 0 ≤ x6 then (if x6 < (x5.length : Int) then (ternsim_given.j2 k x1 x5 x6 x7 x14 x15 (decide ((rd x5 x6) < 0)) x164000 x164001 x164002 x164003 x164004) else (none)) else (none)) else (ternsim_given.j2 k x1 x5 x6 x7 x14 x15 false x164000 x164001 x164002 x164003 x164004)
def ternsim_given.j2 : Nat → List (List Int) → List Int → Int → Int → Int → Int → Bool → Int → List (S36) → List (S69) → List Int → List Int → Option (List Int)
 | 0, _, _, _, _, _, _, _, _, _, _, _, _ => none
 | k + 1, x1, x5, x6, x7, x14, x15, x33, x164000, x164001, x164002, x164003, x164004 => if x33 = true then ((ternsim_tied.f k x1 x6 x7).bind fun t170 => (if t170 ≥ 0 then (if 0 ≤ x6 then (if x6 < (x5.length : Int) then (ternsim_given.l1 k x1 (x5.set (x6 : Int).toNat (wrap64 ((wrap64 (2 * (wrap64 ((wrap64 (x164000 + 1)) + x7)))) + t170))) x6 (wrap64 (x7 + 1)) x14 x15 x164000 x164001 x164002 x164003 x164004) else (none)) else (none)) else (ternsim_given.l1 k x1 x5 x6 (wrap64 (x7 + 1)) x14 x15 x164000 x164001 x164002 x164003 x164004))) else (ternsim_given.l0 k x1 x5 x14 (wrap64 (x15 + 1)) x164000 x164001 x164002 x164003 x164004)
end
def ternsim_given.f (k : Nat) (a0_0 : Int) (l0_1 : List (S36)) (l0_2 : List (S69)) (l0_3 : List Int) (l0_4 : List Int) (l1 : List (List Int)) : Option (List Int) := if 0 ≤ (l0_1.length : Int) then (if ((l0_1.length : Int) : Int).toNat ≤ 35184372088832 then ((some (List.replicate ((l0_1.length : Int) : Int).toNat 0 : List Int)).bind fun y164 => (ternsim_given.l0 k l1 y164 (y164.length : Int) 0 a0_0 l0_1 l0_2 l0_3 l0_4)) else (none)) else (none)
set_option maxHeartbeats 8000000 in
set_option maxRecDepth 100000 in
theorem ternsim_given.calls (k : Nat) (a0_0 : Int) (A0_1 : Option Addr) (c0_1 : Nat) (l0_1 : List (S36)) (A0_2 : Option Addr) (c0_2 : Nat) (l0_2 : List (S69)) (A0_3 : Option Addr) (c0_3 : Nat) (l0_3 : List Int) (A0_4 : Option Addr) (c0_4 : Nat) (l0_4 : List Int) (A1 : Option Addr) (c1 : Nat) (l1 : List (List Int)) (r : List Int) (w : World) (hr0_1 : Kd.C k36 w A0_1 l0_1.length l0_1) (hc0_1 : l0_1.length ≤ c0_1) (hr0_2 : Kd.C k69 w A0_2 l0_2.length l0_2) (hc0_2 : l0_2.length ≤ c0_2) (hr0_3 : Kd.C (Kd.int .i64) w A0_3 l0_3.length l0_3) (hc0_3 : l0_3.length ≤ c0_3) (hr0_4 : Kd.C (Kd.int .i64) w A0_4 l0_4.length l0_4) (hc0_4 : l0_4.length ≤ c0_4) (hr1 : Kd.C (Kd.slice 5 (Kd.int .u8)) w A1 l1.length l1) (hc1 : l1.length ≤ c1) (h : ternsim_given.f k a0_0 l0_1 l0_2 l0_3 l0_4 l1 = some r) :
  Calls Try.prog 46 #[.agg #[.int .i64 a0_0, .slice A0_1 l0_1.length c0_1, .slice A0_2 l0_2.length c0_2, .slice A0_3 l0_3.length c0_3, .slice A0_4 l0_4.length c0_4], .slice A1 l1.length c1] w fun e w' => ∃ v0_ : Value, e = .returned (v0_) ∧ Kd.R (Kd.int .i64) 3 w' w.heap.size (fun _ => True) v0_ r ∧ Below w.heap.size w w' := by
 have hu26 := Try.underlying26
 have HR0_1 := M_ hr0_1
 have HC0_1 := M_ hc0_1
 clear hr0_1 hc0_1
 have HR0_2 := M_ hr0_2
 have HC0_2 := M_ hc0_2
 clear hr0_2 hc0_2
 have HR0_3 := M_ hr0_3
 have HC0_3 := M_ hc0_3
 clear hr0_3 hc0_3
 have HR0_4 := M_ hr0_4
 have HC0_4 := M_ hc0_4
 clear hr0_4 hc0_4
 have HR1 := M_ hr1
 have HC1 := M_ hc1
 clear hr1 hc1
 have HB := M_ (Below.refl w.heap.size w)
 have H : (if 0 ≤ (l0_1.length : Int) then (if ((l0_1.length : Int) : Int).toNat ≤ 35184372088832 then ((some (List.replicate ((l0_1.length : Int) : Int).toNat 0 : List Int)).bind fun y164 => (ternsim_given.l0 k l1 y164 (y164.length : Int) 0 a0_0 l0_1 l0_2 l0_3 l0_4)) else (none)) else (none)) = some r := h
 clear h
 by_cases c3 : 0 ≤ (l0_1.length : Int)
 ·rw [if_pos c3] at H
  have c3b0 := eq_true c3
  have c3b1 : decide (0 ≤ (l0_1.length : Int)) = true := decide_eq_true c3
  clear c3
  by_cases c4 : ((l0_1.length : Int) : Int).toNat ≤ 35184372088832
  ·rw [if_pos c4] at H
   have c4b0 := eq_true c4
   have c4b1 : decide (((l0_1.length : Int) : Int).toNat ≤ 35184372088832) = true := decide_eq_true c4
   clear c4
   obtain ⟨y164, hy164⟩ : ∃ y_ : List Int, y_ = (List.replicate ((l0_1.length : Int) : Int).toNat 0) := ⟨_, rfl⟩
   replace H : (ternsim_given.l0 k l1 y164 (y164.length : Int) 0 a0_0 l0_1 l0_2 l0_3 l0_4) = some r := by first | (rw [hy164]; with_reducible exact H) | (have H2_ := (Option.bind_some _ _).symm.trans H; rw [hy164]; with_reducible exact H2_) | (have H2_ := (Option.bind_some _ _).symm.trans H; with_reducible exact H2_) | with_reducible exact H | (rw [hy164]; exact H) | exact H
   have Ny164 := M_ hy164
   clear hy164
   have H' := M_ H
   clear H
   go_enter Try.func46, Try.ntmps46
   go_wp2_with (first | ((with_reducible refine gate_dst (N := 2) rfl ?_); refine box_event ?hg (N := 2) ?hd (cs := #[.int .i64 a0_0, .slice A0_1 l0_1.length c0_1, .slice A0_2 l0_2.length c0_2, .slice A0_3 l0_3.length c0_3, .slice A0_4 l0_4.length c0_4]) (t := 26) ?hr ?_; (case hd => rfl); (case hg => rfl); (case hr => first | (go_simp; done) | (go_simp; rfl)); intro gb163 hg w5 hbox hb; have n1_ := M_ (hbox); have n2_ := M_ ((by rw [hg]; exact (below_size (wl_ HB.out)) : w.heap.size ≤ gb163)); have n3_ := M_ ((by rw [hg]; exact (below_size (wl_ HB.out)) : w.heap.size ≤ gb163)); replace HB := wb_ HB hb; have BK163 := n1_; have GW163 := n2_; have GE163 := n3_; have gi163 : Ge _ _ := ⟨GE163.out⟩; clear n1_ n2_ n3_; clear hb hbox hg; obtain ⟨hcz6_0, hcz6_1, hcz6_2, hcz6_3, hcz6_4⟩ := cz5_ BK163.out; have hfz6_0 := blk_frozen BK163.out 0; have hfz6_1 := blk_frozen BK163.out 1; have hfz6_2 := blk_frozen BK163.out 2; have hfz6_3 := blk_frozen BK163.out 3; have hfz6_4 := blk_frozen BK163.out 4) | ((with_reducible refine gate_dst (N := 12) rfl ?_); refine Kd.R_make (Kd.int .i64) _ 3 rfl (N := 12) rfl 24 _ _ rfl (l0_1.length : Int) rfl rfl Try.underlying24 (.int .i64 0) 8 info3 rfl (by decide) (by omega) 0 (ok := fun _ => True) (okp := fun _ => True) rfl (fun _ hk => hk) trivial (of_decide_eq_true (by first | (with_reducible assumption) | assumption)) (Nat.le_trans (Nat.mul_le_mul_right _ (of_decide_eq_true (by first | (with_reducible assumption) | assumption) : (l0_1.length : Int).toNat ≤ 35184372088832)) (by omega)) (Below.refl _ _) (Nat.le_refl _) ?_; intro v165 w7 ho8 hb hg_ hnew_; clear hg_ hnew_; (first | rw [← Ny164.out] at ho8 | (simp only [Int.reduceToNat] at ho8; rw [← Ny164.out] at ho8)); have n0_ := M_ (Kd.R_lower ho8 (below_size (ws_ HB.out))); have HO166 := n0_; replace BK163 := bb_ BK163 hb; replace HB := wb_ HB hb; clear n0_; clear hb ho8; obtain ⟨Ao9, co9, eo9⟩ := Kd.R_slice HO166.out; subst eo9))
   go_loopg [15] k (fun kq v15 w' => ∃ (x5_1 : List Int) (x15_1 : Int), v15 = .int .i64 x15_1 ∧ Aside0 (ternsim_given.l0 kq l1 x5_1 (y164.length : Int) x15_1 a0_0 l0_1 l0_2 l0_3 l0_4 = some r) ∧ Aside0 (kq ≤ k) ∧ Aside0 (Kd.R (Kd.int .i64) 3 w' w.heap.size (fun _ => True) (.slice Ao9 y164.length co9) x5_1) ∧ Aside0 (w'.heap[gb163]? = some (.cells #[.int .i64 a0_0, (.slice A0_1 l0_1.length c0_1), (.slice A0_2 l0_2.length c0_2), (.slice A0_3 l0_3.length c0_3), (.slice A0_4 l0_4.length c0_4)] 26 (0, 0))) ∧ Aside0 (Below w.heap.size w w'))
   case atStart => exact ⟨(y164), (0), (by first | rfl | (simp; done) | (simp [*]; done)), H', ⟨Nat.le_refl _⟩, ⟨by (with_reducible repeat (first | apply a0_ | apply a1_ | apply a2_)); exact HO166.out⟩, ⟨by (with_reducible repeat (first | refine k0_ ?_ _ | refine k1_ ?_ | refine k2_ ?_ _)); exact BK163.out⟩, ⟨by repeat (first | (with_reducible first | exact HB.out | apply b0_ | apply b1_ | apply b2_ | refine below_set ?_ GE163.out) | exact HB.out)⟩⟩
   case round =>
    clear H'
    try clear c1; try clear p2; try clear c3; try clear c3b0; try clear c3b1; try clear c4; try clear c4b0; try clear c4b1; try clear hcz6_0 hcz6_1 hcz6_2 hcz6_3 hcz6_4; try clear hfz6_0 hfz6_1 hfz6_2 hfz6_3 hfz6_4
    obtain ⟨x5_1, x15_1, rfl, HA, HK1, HO_5, BK163, HB⟩ := hrel
    have hl5_1 := (Kd.R_reads' HO_5.out).1
    rw [hl5_1] at HO_5
    (try simp only [hl5_1])
    (try simp only [hl5_1] at BK163)
    cases gk with
    | zero => exact absurd HA.out (by simp [ternsim_given.l0])
    | succ k1 =>
     have H := HA.out
     clear HA
     simp only [ternsim_given.l0] at H
     by_cases c10 : x15_1 < (y164.length : Int)
     ·rw [if_pos c10] at H
      have c10b0 : decide (x15_1 < (y164.length : Int)) = true := decide_eq_true c10
      clear c10
      replace H := Option.bind_eq_some_iff.mp H
      obtain ⟨t167, A110, H⟩ := H
      replace H : (if 0 ≤ x15_1 then (if x15_1 < (x5_1.length : Int) then (ternsim_given.l1 k1 l1 (x5_1.set (x15_1 : Int).toNat t167) x15_1 0 (y164.length : Int) x15_1 a0_0 l0_1 l0_2 l0_3 l0_4) else (none)) else (none)) = some r := H
      have A11 := M_ A110
      clear A110
      by_cases c12 : 0 ≤ x15_1
      ·rw [if_pos c12] at H
       have c12b0 : decide (0 ≤ x15_1) = true := decide_eq_true c12
       clear c12
       by_cases c13 : x15_1 < (x5_1.length : Int)
       ·rw [if_pos c13] at H
        have c13b0 : decide (x15_1 < (x5_1.length : Int)) = true := decide_eq_true c13
        clear c13
        obtain ⟨y168, hy168⟩ : ∃ y_ : List Int, y_ = (x5_1.set (x15_1 : Int).toNat t167) := ⟨_, rfl⟩
        replace H : (ternsim_given.l1 k1 l1 y168 x15_1 0 (y164.length : Int) x15_1 a0_0 l0_1 l0_2 l0_3 l0_4) = some r := by first | (rw [hy168]; with_reducible exact H) | (have H2_ := (Option.bind_some _ _).symm.trans H; rw [hy168]; with_reducible exact H2_) | (have H2_ := (Option.bind_some _ _).symm.trans H; with_reducible exact H2_) | with_reducible exact H | (rw [hy168]; exact H) | exact H
        have Ny168 := M_ hy168
        clear hy168
        have H' := M_ H
        clear H
        go_wp2_with (first | ((with_reducible refine gate_callee (f := 81) rfl ?_); refine goesL_ (some 22) rfl rfl Try.func81 (by kernel_rfl) rfl #[.slice A1 l1.length c1, .int .i64 x15_1] rfl (by (try simp only [List.map_toArray, List.map_cons, List.map_nil]); first | done | rfl) ?_; (with_reducible refine (ternsim_constant.calls k1 _ _ l1 x15_1 t167 _ ?side1 ?side2 A11.out).mono ?_); (case side1 => exact cl_ (Kd.C_below HR1.out HB.out)); (case side2 => exact HC1.out); rintro e w' ⟨rfl, ⟨nd, rfl⟩⟩; refine ⟨_, rfl, ?_⟩; (try (rw [drewN_self wr]; generalize hq_ : World.drewN wr _ = wr; have n0_ : Aside0 (Kd.R (Kd.int .i64) 3 wr w.heap.size (fun _ => True) (.slice Ao9 x5_1.length co9) x5_1) := ⟨by rw [← hq_]; exact (rl_ HO_5.out)⟩; have n1_ : Aside0 (wr.heap[gb163]? = some (.cells #[.int .i64 a0_0, .slice A0_1 l0_1.length c0_1, .slice A0_2 l0_2.length c0_2, .slice A0_3 l0_3.length c0_3, .slice A0_4 l0_4.length c0_4] 26 (0, 0))) := ⟨by rw [← hq_]; exact (bl_ BK163.out)⟩; have n2_ : Aside0 (Below w.heap.size w wr) := ⟨by rw [← hq_]; exact (ws_ HB.out)⟩; clear HO_5 BK163 HB hq_; have HO_5 := n0_; have BK163 := n1_; have HB := n2_; clear n0_ n1_ n2_)); have p14 : 0 ≤ (x15_1 : Int) := of_decide_eq_true (by first | (with_reducible assumption) | assumption); have q14 : (x15_1 : Int) < ((x5_1.length : Int) : Int) := of_decide_eq_true (by first | (with_reducible assumption) | assumption); obtain ⟨go14, co14, eo14, gb14, gl14, cl14, HG14⟩ := Kd.R_form HO_5.out (by omega); (first | cases eo14 | (injection eo14 with ea_ en_ ec_; (first | subst ea_ | (injection ea_ with ea_; subst ea_)); subst ec_; clear en_)); have GB14 := M_ gb14; have GG14 := M_ HG14; clear gb14 gl14 HG14; obtain ⟨hx14_0, hf14_0⟩ := Kd.R_celln 0 HO_5.out (x15_1 : Int) p14 q14; replace p14 := eq_true p14; replace q14 := eq_true q14; obtain ⟨hy15_, hz15_⟩ := Kd.R_celln 0 HO_5.out (x15_1 : Int) (of_decide_eq_true (by first | (with_reducible assumption) | assumption)) (of_decide_eq_true (by first | (with_reducible assumption) | assumption)); have HP15 := Kd.R_putg HO_5.out (x15_1 : Int) t167) | ((with_reducible refine gate_store (t := 3) (p := 23) rfl ?_); refine store_event (t := 3) (p := 23) (v := ?vo_w16) (w1 := (wr.setCell ⟨go14, (x15_1 : Int).toNat, none⟩ (.int .i64 t167))) ?hg ?ho ?hn ?hr ?_; (case ho => rfl); (case hg => rfl); (case hn => rfl); (case hr => first | (go_simp; done) | (go_simp; rfl)); intro w16 hw; have hg : wr.grownBy w16 (some go14) := (by rw [hw]; exact HP15.2); have hp_ : Kd.R (Kd.int .i64) 3 w16 w.heap.size (fun _ => True) (.slice (some ⟨go14, 0, none⟩) x5_1.length co9) y168 := (by rw [hw, Ny168.out]; exact HP15.1); clear HP15; have n0_ := M_ (hp_); have n1_ := M_ (blk_grown (bl_ BK163.out) hg (Kd.R_ne HO_5.out BK163.out (by decide))); have n2_ := M_ ((by rw [hw]; exact below_set (HB.out) GB14.out : Below w.heap.size w w16)); clear HO_5; clear BK163; clear HB; have HO_5 := n0_; have BK163 := n1_; have HB := n2_; clear n0_ n1_ n2_; clear hg hw hp_))
        go_loopg [7] k1 (fun kq v7 w' => ∃ (x5_2 : List Int) (x7_2 : Int), v7 = .int .i64 x7_2 ∧ Aside0 (ternsim_given.l1 kq l1 x5_2 x15_1 x7_2 (y164.length : Int) x15_1 a0_0 l0_1 l0_2 l0_3 l0_4 = some r) ∧ Aside0 (kq ≤ k1) ∧ Aside0 (Kd.R (Kd.int .i64) 3 w' w.heap.size (fun _ => True) (.slice (some ⟨go14, 0, none⟩) x5_1.length co9) x5_2) ∧ Aside0 (w'.heap[gb163]? = some (.cells #[.int .i64 a0_0, (.slice A0_1 l0_1.length c0_1), (.slice A0_2 l0_2.length c0_2), (.slice A0_3 l0_3.length c0_3), (.slice A0_4 l0_4.length c0_4)] 26 (0, 0))) ∧ Aside0 (Below w.heap.size w w'))
        case atStart => exact ⟨(y168), (0), (by first | rfl | (simp; done) | (simp [*]; done)), H', ⟨Nat.le_refl _⟩, ⟨by (try simp only [hl5_1]); (with_reducible repeat (first | apply a0_ | apply a1_ | apply a2_)); exact HO_5.out⟩, ⟨by (try simp only [hl5_1]); (with_reducible repeat (first | refine k0_ ?_ _ | refine k1_ ?_ | refine k2_ ?_ _)); exact BK163.out⟩, ⟨by repeat (first | (with_reducible first | exact HB.out | apply b0_ | apply b1_ | apply b2_ | refine below_set ?_ GE163.out) | exact HB.out)⟩⟩
        case round =>
         clear H'
         try clear c1; try clear p1; try clear q1; try clear hx1; try clear p2; try clear c3; try clear c3b0; try clear c3b1; try clear c4; try clear c4b0; try clear c4b1; try clear c8; try clear c10; try clear c10b0; try clear c12; try clear c12b0; try clear c13; try clear c13b0; try clear p14; try clear q14; try clear hx14; try clear hf14; try clear hcz6_0 hcz6_1 hcz6_2 hcz6_3 hcz6_4; try clear hfz6_0 hfz6_1 hfz6_2 hfz6_3 hfz6_4; try clear hx14_0; try clear p14; try clear p2; try clear q14
         obtain ⟨x5_2, x7_2, rfl, HA, HK2, HO_5, BK163, HB⟩ := hrel
         have hl5_2 := (Kd.R_reads' HO_5.out).1
         rw [hl5_2] at HO_5
         (try simp only [hl5_2])
         (try simp only [hl5_2] at BK163)
         cases gk with
         | zero => exact absurd HA.out (by simp [ternsim_given.l1])
         | succ k2 =>
          have H := HA.out
          clear HA
          simp only [ternsim_given.l1] at H
          have HC17 := M_ H
          clear H
          go_upto_region 7 with (fail)
          go_cut [33] (fun v33 wc => ∃ (kq : Nat) (x33_16 : Bool), v33 = .bool x33_16 ∧ Aside0 (ternsim_given.j2 kq l1 x5_2 x15_1 x7_2 (y164.length : Int) x15_1 x33_16 a0_0 l0_1 l0_2 l0_3 l0_4 = some r) ∧ Aside0 (kq ≤ k2) ∧ Aside0 (Kd.R (Kd.int .i64) 3 wc w.heap.size (fun _ => True) (.slice (some ⟨go14, 0, none⟩) x5_2.length co9) x5_2) ∧ Aside0 (wc.heap[gb163]? = some (.cells #[.int .i64 a0_0, (.slice A0_1 l0_1.length c0_1), (.slice A0_2 l0_2.length c0_2), (.slice A0_3 l0_3.length c0_3), (.slice A0_4 l0_4.length c0_4)] 26 (0, 0))) ∧ Aside0 (Below w.heap.size w wc))
          case first =>
           have H := HC17.out
           clear HC17
           by_cases c18 : x7_2 < x15_1
           ·rw [if_pos c18] at H
            have c18b0 : decide (x7_2 < x15_1) = true := decide_eq_true c18
            clear c18
            (first | rw [c18b0] | (simp only [i64_w, i32_w]; rw [c18b0]) | skip)
            by_cases c19 : 0 ≤ x15_1
            ·rw [if_pos c19] at H
             have c19b0 : decide (0 ≤ x15_1) = true := decide_eq_true c19
             clear c19
             by_cases c20 : x15_1 < (x5_2.length : Int)
             ·rw [if_pos c20] at H
              have c20b0 : decide (x15_1 < (x5_2.length : Int)) = true := decide_eq_true c20
              clear c20
              have H' := M_ H
              clear H
              have p169 : 0 ≤ (x15_1 : Int) := of_decide_eq_true (by first | (with_reducible assumption) | assumption)
              have q169 : x15_1 < (x5_2.length : Int) := of_decide_eq_true (by first | (with_reducible assumption) | assumption)
              obtain ⟨ad169, e169, hx169_0⟩ := Kd.at_int (Kd.R_reads' HO_5.out).2.2 x15_1 p169 q169
              obtain rfl : (⟨go14, 0, none⟩ : Addr) = ad169 := (by injection e169)
              (first | simp only [add_plain] at hx169_0 | simp only [add_at] at hx169_0 | simp only [Addr.add, Nat.zero_add] at hx169_0 | skip)
              replace p169 := eq_true p169
              replace q169 := eq_true q169
              go_wp2
              go_meet
              case rel => exact ⟨_, (decide ((rd x5_2 x15_1) < 0)), (by first | rfl | (simp; done) | (simp [*]; done)), H', ⟨by have := HK1.out; have := HK2.out; first | omega | exact Nat.le_refl _⟩, ⟨by (try simp only [hl5_1]); (try simp only [hl5_2]); (with_reducible repeat (first | apply a0_ | apply a1_ | apply a2_)); exact HO_5.out⟩, ⟨by (try simp only [hl5_1]); (try simp only [hl5_2]); (with_reducible repeat (first | refine k0_ ?_ _ | refine k1_ ?_ | refine k2_ ?_ _)); exact BK163.out⟩, ⟨by repeat (first | (with_reducible first | exact HB.out | apply b0_ | apply b1_ | apply b2_ | refine below_set ?_ GE163.out) | exact HB.out)⟩⟩
             ·rw [if_neg c20] at H
              exact absurd H (by simp)
            ·rw [if_neg c19] at H
             exact absurd H (by simp)
           ·rw [if_neg c18] at H
            have c18b0 : decide (x7_2 < x15_1) = false := decide_eq_false c18
            clear c18
            (first | rw [c18b0] | (simp only [i64_w, i32_w]; rw [c18b0]) | skip)
            have H' := M_ H
            clear H
            go_wp2
            go_meet
            case rel => exact ⟨_, (false), (by first | rfl | (simp; done) | (simp [*]; done)), H', ⟨by have := HK1.out; have := HK2.out; first | omega | exact Nat.le_refl _⟩, ⟨by (try simp only [hl5_1]); (try simp only [hl5_2]); (with_reducible repeat (first | apply a0_ | apply a1_ | apply a2_)); exact HO_5.out⟩, ⟨by (try simp only [hl5_1]); (try simp only [hl5_2]); (with_reducible repeat (first | refine k0_ ?_ _ | refine k1_ ?_ | refine k2_ ?_ _)); exact BK163.out⟩, ⟨by repeat (first | (with_reducible first | exact HB.out | apply b0_ | apply b1_ | apply b2_ | refine below_set ?_ GE163.out) | exact HB.out)⟩⟩
          case rest =>
           clear HC17
           try clear c1; try clear p1; try clear q1; try clear hx1; try clear c2; try clear p2; try clear c3; try clear c3b0; try clear c3b1; try clear c4; try clear c4b0; try clear c4b1; try clear c8; try clear c10; try clear c10b0; try clear c12; try clear c12b0; try clear c13; try clear c13b0; try clear p14; try clear q14; try clear hx14; try clear hf14; try clear p16; try clear q16; try clear hx16; try clear c18; try clear c18b0; try clear c19; try clear c19b0; try clear c20; try clear c20b0; try clear hcz6_0 hcz6_1 hcz6_2 hcz6_3 hcz6_4; try clear hfz6_0 hfz6_1 hfz6_2 hfz6_3 hfz6_4; try clear hx14_0; try clear hx169_0; try clear p1; try clear p14; try clear p169; try clear p2; try clear q1; try clear q14; try clear q169
           obtain ⟨kq, x33_16, rfl, HA, HJ16, HO_5, BK163, HB⟩ := hcut
           cases kq with
           | zero => exact absurd HA.out (by simp [ternsim_given.j2])
           | succ kj16 =>
            have H := HA.out
            clear HA
            simp only [ternsim_given.j2] at H
            by_cases c21 : x33_16 = true
            ·subst c21
             have H1 : ((ternsim_tied.f kj16 l1 x15_1 x7_2).bind fun t170 => (if t170 ≥ 0 then (if 0 ≤ x15_1 then (if x15_1 < (x5_2.length : Int) then (ternsim_given.l1 kj16 l1 (x5_2.set (x15_1 : Int).toNat (wrap64 ((wrap64 (2 * (wrap64 ((wrap64 (a0_0 + 1)) + x7_2)))) + t170))) x15_1 (wrap64 (x7_2 + 1)) (y164.length : Int) x15_1 a0_0 l0_1 l0_2 l0_3 l0_4) else (none)) else (none)) else (ternsim_given.l1 kj16 l1 x5_2 x15_1 (wrap64 (x7_2 + 1)) (y164.length : Int) x15_1 a0_0 l0_1 l0_2 l0_3 l0_4))) = some r := by rw [if_pos rfl] at H; exact H
             clear H
             have H := H1
             clear H1
             replace H := Option.bind_eq_some_iff.mp H
             obtain ⟨t170, A220, H⟩ := H
             replace H : (if t170 ≥ 0 then (if 0 ≤ x15_1 then (if x15_1 < (x5_2.length : Int) then (ternsim_given.l1 kj16 l1 (x5_2.set (x15_1 : Int).toNat (wrap64 ((wrap64 (2 * (wrap64 ((wrap64 (a0_0 + 1)) + x7_2)))) + t170))) x15_1 (wrap64 (x7_2 + 1)) (y164.length : Int) x15_1 a0_0 l0_1 l0_2 l0_3 l0_4) else (none)) else (none)) else (ternsim_given.l1 kj16 l1 x5_2 x15_1 (wrap64 (x7_2 + 1)) (y164.length : Int) x15_1 a0_0 l0_1 l0_2 l0_3 l0_4)) = some r := H
             have A22 := M_ A220
             clear A220
             by_cases c23 : t170 ≥ 0
             ·rw [if_pos c23] at H
              have c23b0 : decide (0 ≤ t170) = true := decide_eq_true c23
              clear c23
              by_cases c24 : 0 ≤ x15_1
              ·rw [if_pos c24] at H
               have c24b0 : decide (0 ≤ x15_1) = true := decide_eq_true c24
               clear c24
               by_cases c25 : x15_1 < (x5_2.length : Int)
               ·rw [if_pos c25] at H
                have c25b0 : decide (x15_1 < (x5_2.length : Int)) = true := decide_eq_true c25
                clear c25
                obtain ⟨y171, hy171⟩ : ∃ y_ : List Int, y_ = (x5_2.set (x15_1 : Int).toNat (wrap64 ((wrap64 (2 * (wrap64 ((wrap64 (a0_0 + 1)) + x7_2)))) + t170))) := ⟨_, rfl⟩
                replace H : (ternsim_given.l1 kj16 l1 y171 x15_1 (wrap64 (x7_2 + 1)) (y164.length : Int) x15_1 a0_0 l0_1 l0_2 l0_3 l0_4) = some r := by first | (rw [hy171]; with_reducible exact H) | (have H2_ := (Option.bind_some _ _).symm.trans H; rw [hy171]; with_reducible exact H2_) | (have H2_ := (Option.bind_some _ _).symm.trans H; with_reducible exact H2_) | with_reducible exact H | (rw [hy171]; exact H) | exact H
                have Ny171 := M_ hy171
                clear hy171
                have H' := M_ H
                clear H
                go_wp2_with (first | ((with_reducible refine gate_callee (f := 82) rfl ?_); refine goesL_ (some 39) rfl rfl Try.func82 (by kernel_rfl) rfl #[.slice A1 l1.length c1, .int .i64 x15_1, .int .i64 x7_2] rfl (by (try simp only [List.map_toArray, List.map_cons, List.map_nil]); first | done | rfl) ?_; (with_reducible refine (ternsim_tied.calls kj16 _ _ l1 x15_1 x7_2 t170 _ ?side1 ?side2 A22.out).mono ?_); (case side1 => exact cl_ (Kd.C_below HR1.out HB.out)); (case side2 => exact HC1.out); rintro e w' ⟨rfl, ⟨nd, rfl⟩⟩; refine ⟨_, rfl, ?_⟩; (try (rw [drewN_self wc]; generalize hq_ : World.drewN wc _ = wc; have n0_ : Aside0 (Kd.R (Kd.int .i64) 3 wc w.heap.size (fun _ => True) (.slice (some ⟨go14, 0, none⟩) x5_2.length co9) x5_2) := ⟨by rw [← hq_]; exact (rl_ HO_5.out)⟩; have n1_ : Aside0 (wc.heap[gb163]? = some (.cells #[.int .i64 a0_0, .slice A0_1 l0_1.length c0_1, .slice A0_2 l0_2.length c0_2, .slice A0_3 l0_3.length c0_3, .slice A0_4 l0_4.length c0_4] 26 (0, 0))) := ⟨by rw [← hq_]; exact (bl_ BK163.out)⟩; have n2_ : Aside0 (Below w.heap.size w wc) := ⟨by rw [← hq_]; exact (ws_ HB.out)⟩; clear HO_5 BK163 HB hq_; have HO_5 := n0_; have BK163 := n1_; have HB := n2_; clear n0_ n1_ n2_)); obtain ⟨hcz27_0, hcz27_1, hcz27_2, hcz27_3, hcz27_4⟩ := cz5_ BK163.out; obtain ⟨hfz27_0, hfz27_1, hfz27_2, hfz27_3, hfz27_4⟩ := fz5_ BK163.out; have p26 : 0 ≤ (x15_1 : Int) := of_decide_eq_true (by first | (with_reducible assumption) | assumption); have q26 : (x15_1 : Int) < ((x5_2.length : Int) : Int) := of_decide_eq_true (by first | (with_reducible assumption) | assumption); obtain ⟨hx26_0, hf26_0⟩ := Kd.R_celln 0 HO_5.out (x15_1 : Int) p26 q26; replace p26 := eq_true p26; replace q26 := eq_true q26; obtain ⟨hy28_, hz28_⟩ := Kd.R_celln 0 HO_5.out (x15_1 : Int) (of_decide_eq_true (by first | (with_reducible assumption) | assumption)) (of_decide_eq_true (by first | (with_reducible assumption) | assumption)); have HP28 := Kd.R_putg HO_5.out (x15_1 : Int) (wrap64 ((wrap64 (2 * (wrap64 ((wrap64 (a0_0 + 1)) + x7_2)))) + t170))) | ((with_reducible refine gate_store (t := 3) (p := 52) rfl ?_); refine store_event (t := 3) (p := 52) (v := ?vo_w29) (w1 := (wc.setCell ⟨go14, (x15_1 : Int).toNat, none⟩ (.int .i64 (wrap64 ((wrap64 (2 * (wrap64 ((wrap64 (a0_0 + 1)) + x7_2)))) + t170))))) ?hg ?ho ?hn ?hr ?_; (case ho => rfl); (case hg => rfl); (case hn => rfl); (case hr => first | (go_simp; done) | (go_simp; rfl)); intro w29 hw; have hg : wc.grownBy w29 (some go14) := (by rw [hw]; exact HP28.2); have hp_ : Kd.R (Kd.int .i64) 3 w29 w.heap.size (fun _ => True) (.slice (some ⟨go14, 0, none⟩) x5_2.length co9) y171 := (by rw [hw, Ny171.out]; exact HP28.1); clear HP28; have n0_ := M_ (hp_); have n1_ := M_ (blk_grown (bl_ BK163.out) hg (Kd.R_ne HO_5.out BK163.out (by decide))); have n2_ := M_ ((by rw [hw]; exact below_set (HB.out) GB14.out : Below w.heap.size w w29)); clear HO_5; clear BK163; clear HB; have HO_5 := n0_; have BK163 := n1_; have HB := n2_; clear n0_ n1_ n2_; clear hg hw hp_))
                (try simp only [← hl5_2])
                go_roundg kj16
                case measure => have := HK1.out; have := HK2.out; have := HJ16.out; omega
                case rel => exact ⟨(y171), (wrap64 (x7_2 + 1)), (by first | rfl | (simp; done) | (simp [*]; done)), H', ⟨by have := HK1.out; have := HK2.out; have := HJ16.out; omega⟩, ⟨by (try simp only [hl5_1]); (try simp only [hl5_2]); (with_reducible repeat (first | apply a0_ | apply a1_ | apply a2_)); exact HO_5.out⟩, ⟨by (try simp only [hl5_1]); (try simp only [hl5_2]); (with_reducible repeat (first | refine k0_ ?_ _ | refine k1_ ?_ | refine k2_ ?_ _)); exact BK163.out⟩, ⟨by repeat (first | (with_reducible first | exact HB.out | apply b0_ | apply b1_ | apply b2_ | refine below_set ?_ GE163.out) | exact HB.out)⟩⟩
               ·rw [if_neg c25] at H
                exact absurd H (by simp)
              ·rw [if_neg c24] at H
               exact absurd H (by simp)
             ·rw [if_neg c23] at H
              have c23b0 : decide (0 ≤ t170) = false := decide_eq_false c23
              clear c23
              have H' := M_ H
              clear H
              go_wp2_with (first | ((with_reducible refine gate_callee (f := 82) rfl ?_); refine goesL_ (some 39) rfl rfl Try.func82 (by kernel_rfl) rfl #[.slice A1 l1.length c1, .int .i64 x15_1, .int .i64 x7_2] rfl (by (try simp only [List.map_toArray, List.map_cons, List.map_nil]); first | done | rfl) ?_; (with_reducible refine (ternsim_tied.calls kj16 _ _ l1 x15_1 x7_2 t170 _ ?side1 ?side2 A22.out).mono ?_); (case side1 => exact cl_ (Kd.C_below HR1.out HB.out)); (case side2 => exact HC1.out); rintro e w' ⟨rfl, ⟨nd, rfl⟩⟩; refine ⟨_, rfl, ?_⟩))
              (try simp only [← hl5_2])
              go_roundg kj16
              case measure => have := HK1.out; have := HK2.out; have := HJ16.out; omega
              case rel => exact ⟨(x5_2), (wrap64 (x7_2 + 1)), (by first | rfl | (simp; done) | (simp [*]; done)), H', ⟨by have := HK1.out; have := HK2.out; have := HJ16.out; omega⟩, ⟨by (try simp only [hl5_1]); (try simp only [hl5_2]); (with_reducible repeat (first | apply a0_ | apply a1_ | apply a2_)); exact HO_5.out⟩, ⟨by (try simp only [hl5_1]); (try simp only [hl5_2]); (with_reducible repeat (first | refine k0_ ?_ _ | refine k1_ ?_ | refine k2_ ?_ _)); exact BK163.out⟩, ⟨by repeat (first | (with_reducible first | exact HB.out | apply b0_ | apply b1_ | apply b2_ | refine below_set ?_ GE163.out) | exact HB.out)⟩⟩
            ·replace c21 := Bool.eq_false_iff.mpr c21
             subst c21
             have H1 : (ternsim_given.l0 kj16 l1 x5_2 (y164.length : Int) (wrap64 (x15_1 + 1)) a0_0 l0_1 l0_2 l0_3 l0_4) = some r := by rw [if_neg (show ¬ (false = true) by decide)] at H; exact H
             clear H
             have H := H1
             clear H1
             have H' := M_ H
             clear H
             go_wp2
             (try simp only [← hl5_1, ← hl5_2])
             go_roundg kj16
             case measure => have := HK1.out; have := HK2.out; have := HJ16.out; omega
             case rel => exact ⟨(x5_2), (wrap64 (x15_1 + 1)), (by first | rfl | (simp; done) | (simp [*]; done)), H', ⟨by have := HK1.out; have := HK2.out; have := HJ16.out; omega⟩, ⟨by (try simp only [hl5_1]); (try simp only [hl5_2]); (with_reducible repeat (first | apply a0_ | apply a1_ | apply a2_)); exact HO_5.out⟩, ⟨by (try simp only [hl5_1]); (try simp only [hl5_2]); (with_reducible repeat (first | refine k0_ ?_ _ | refine k1_ ?_ | refine k2_ ?_ _)); exact BK163.out⟩, ⟨by repeat (first | (with_reducible first | exact HB.out | apply b0_ | apply b1_ | apply b2_ | refine below_set ?_ GE163.out) | exact HB.out)⟩⟩
       ·rw [if_neg c13] at H
        exact absurd H (by simp)
      ·rw [if_neg c12] at H
       exact absurd H (by simp)
     ·rw [if_neg c10] at H
      have c10b0 : decide (x15_1 < (y164.length : Int)) = false := decide_eq_false c10
      (try simp only [hl5_1] at c10b0)
      clear c10
      obtain rfl := Option.some.inj H
      go_wp2
      go_ret
      exact ⟨_, by first | rfl | (simp [errW_none, errW_some] <;> rfl) | (simp [*, errW_none, errW_some] <;> rfl), by (with_reducible repeat (first | apply a0_ | apply a1_ | apply a2_)); exact HO_5.out, by repeat (first | (with_reducible first | exact HB.out | apply b0_ | apply b1_ | apply b2_ | refine below_set ?_ GE163.out) | exact HB.out)⟩
  ·rw [if_neg c4] at H
   exact absurd H (by simp)
 ·rw [if_neg c3] at H
  exact absurd H (by simp)

def ternsim_Given.f (k : Nat) (a0_0 : Int) (l0_1 : List (S36)) (l0_2 : List (S69)) (l0_3 : List Int) (l0_4 : List Int) : Option (List Int × Int) := (ternsim_States.f k a0_0 l0_1 l0_2 l0_3 l0_4).bind fun bt173 => (if bt173.2 = 0 then ((ternsim_given.f k a0_0 l0_1 l0_2 l0_3 l0_4 bt173.1).bind fun t177 => (some (t177, 0))) else (some (([] : List Int), bt173.2)))
set_option maxHeartbeats 8000000 in
set_option maxRecDepth 100000 in
theorem ternsim_Given.calls (k : Nat) (a0_0 : Int) (A0_1 : Option Addr) (c0_1 : Nat) (l0_1 : List (S36)) (A0_2 : Option Addr) (c0_2 : Nat) (l0_2 : List (S69)) (A0_3 : Option Addr) (c0_3 : Nat) (l0_3 : List Int) (A0_4 : Option Addr) (c0_4 : Nat) (l0_4 : List Int) (r1 : List Int) (r2 : Int) (w : World) (hr0_1 : Kd.C k36 w A0_1 l0_1.length l0_1) (hc0_1 : l0_1.length ≤ c0_1) (hr0_2 : Kd.C k69 w A0_2 l0_2.length l0_2) (hc0_2 : l0_2.length ≤ c0_2) (hr0_3 : Kd.C (Kd.int .i64) w A0_3 l0_3.length l0_3) (hc0_3 : l0_3.length ≤ c0_3) (hr0_4 : Kd.C (Kd.int .i64) w A0_4 l0_4.length l0_4) (hc0_4 : l0_4.length ≤ c0_4) (h : ternsim_Given.f k a0_0 l0_1 l0_2 l0_3 l0_4 = some (r1, r2)) :
  Calls Try.prog 15 #[.agg #[.int .i64 a0_0, .slice A0_1 l0_1.length c0_1, .slice A0_2 l0_2.length c0_2, .slice A0_3 l0_3.length c0_3, .slice A0_4 l0_4.length c0_4]] w fun e w' => ∃ v0_ : Value, e = .returned (.tuple #[v0_, .int .i64 r2]) ∧ Kd.R (Kd.int .i64) 3 w' w.heap.size (fun _ => True) v0_ r1 ∧ Below w.heap.size w w' := by
 have hu26 := Try.underlying26
 have HR0_1 := M_ hr0_1
 have HC0_1 := M_ hc0_1
 clear hr0_1 hc0_1
 have HR0_2 := M_ hr0_2
 have HC0_2 := M_ hc0_2
 clear hr0_2 hc0_2
 have HR0_3 := M_ hr0_3
 have HC0_3 := M_ hc0_3
 clear hr0_3 hc0_3
 have HR0_4 := M_ hr0_4
 have HC0_4 := M_ hc0_4
 clear hr0_4 hc0_4
 have HB := M_ (Below.refl w.heap.size w)
 have H : ((ternsim_States.f k a0_0 l0_1 l0_2 l0_3 l0_4).bind fun bt173 => (if bt173.2 = 0 then ((ternsim_given.f k a0_0 l0_1 l0_2 l0_3 l0_4 bt173.1).bind fun t177 => (some (t177, 0))) else (some (([] : List Int), bt173.2)))) = some (r1, r2) := h
 clear h
 replace H := Option.bind_eq_some_iff.mp H
 obtain ⟨⟨t173, t176⟩, A20, H⟩ := H
 replace H : (if t176 = 0 then ((ternsim_given.f k a0_0 l0_1 l0_2 l0_3 l0_4 t173).bind fun t177 => (some (t177, 0))) else (some (([] : List Int), t176))) = some (r1, r2) := H
 have A2 := M_ A20
 clear A20
 by_cases c3 : t176 = 0
 ·rw [if_pos c3] at H
  have c3b0 : (t176 == 0) = true := beq_iff_eq.mpr c3
  have c3b1 : (t176 != 0) = false := bne_eq_false_iff_eq.mpr c3
  clear c3
  replace H := Option.bind_eq_some_iff.mp H
  obtain ⟨t177, A40, H⟩ := H
  replace H : (some (t177, 0)) = some (r1, r2) := H
  have A4 := M_ A40
  clear A40
  simp only [Option.some.injEq, Prod.mk.injEq] at H
  obtain ⟨rfl, rfl⟩ := H
  go_enter Try.func15, Try.ntmps15
  go_wp2_with (first | ((with_reducible refine gate_dst (N := 1) rfl ?_); refine box_event ?hg (N := 1) ?hd (cs := #[.int .i64 a0_0, .slice A0_1 l0_1.length c0_1, .slice A0_2 l0_2.length c0_2, .slice A0_3 l0_3.length c0_3, .slice A0_4 l0_4.length c0_4]) (t := 26) ?hr ?_; (case hd => rfl); (case hg => rfl); (case hr => first | (go_simp; done) | (go_simp; rfl)); intro gb172 hg w5 hbox hb; have n1_ := M_ (hbox); have n2_ := M_ ((by rw [hg]; exact (below_size (wl_ HB.out)) : w.heap.size ≤ gb172)); have n3_ := M_ ((by rw [hg]; exact (below_size (wl_ HB.out)) : w.heap.size ≤ gb172)); replace HB := wb_ HB hb; have BK172 := n1_; have GW172 := n2_; have GE172 := n3_; have gi172 : Ge _ _ := ⟨GE172.out⟩; clear n1_ n2_ n3_; clear hb hbox hg; obtain ⟨hcz6_0, hcz6_1, hcz6_2, hcz6_3, hcz6_4⟩ := cz5_ BK172.out; have hfz6_0 := blk_frozen BK172.out 0; have hfz6_1 := blk_frozen BK172.out 1; have hfz6_2 := blk_frozen BK172.out 2; have hfz6_3 := blk_frozen BK172.out 3; have hfz6_4 := blk_frozen BK172.out 4) | ((with_reducible refine gate_callee (f := 12) rfl ?_); refine goesL_ (some 8) rfl rfl Try.func12 (by kernel_rfl) rfl #[.agg #[.int .i64 a0_0, .slice A0_1 l0_1.length c0_1, .slice A0_2 l0_2.length c0_2, .slice A0_3 l0_3.length c0_3, .slice A0_4 l0_4.length c0_4]] rfl (by (try simp only [List.map_toArray, List.map_cons, List.map_nil]); first | done | rfl) ?_; (with_reducible refine (ternsim_States.calls k a0_0 _ _ l0_1 _ _ l0_2 _ _ l0_3 _ _ l0_4 t173 t176 _ ?side1 ?side2 ?side3 ?side4 ?side5 ?side6 ?side7 ?side8 A2.out).mono ?_); (case side1 => exact cl_ (Kd.C_below HR0_1.out HB.out)); (case side2 => exact HC0_1.out); (case side3 => exact cl_ (Kd.C_below HR0_2.out HB.out)); (case side4 => exact HC0_2.out); (case side5 => exact cl_ (Kd.C_below HR0_3.out HB.out)); (case side6 => exact HC0_3.out); (case side7 => exact cl_ (Kd.C_below HR0_4.out HB.out)); (case side8 => exact HC0_4.out); rintro e w7 ⟨v174, rfl, ho0, hb⟩; refine ⟨_, rfl, ?_⟩; have n0_ := M_ (Kd.N_lower (Kd.N_mono (ok' := fun k_ => k_ ≠ gb172) ho0 (fun k_ hk_ => (Kd.freshB (bl_ BK172.out) k_ hk_))) (below_size (ws_ HB.out))); have HO175 := n0_; replace BK172 := bb_ BK172 hb; replace HB := wb_ HB hb; clear n0_; (try clear hb); (try clear hb2); (try clear hk); (try clear hi); (try clear ho0); obtain ⟨hcz8_0, hcz8_1, hcz8_2, hcz8_3, hcz8_4⟩ := cz5_ BK172.out; obtain ⟨hfz8_0, hfz8_1, hfz8_2, hfz8_3, hfz8_4⟩ := fz5_ BK172.out; obtain ⟨Ao9, co9, eo9⟩ := Kd.N_slice HO175.out; subst eo9) | ((with_reducible refine gate_callee (f := 46) rfl ?_); refine goesL_ (some 16) rfl rfl Try.func46 (by kernel_rfl) rfl #[.agg #[.int .i64 a0_0, .slice A0_1 l0_1.length c0_1, .slice A0_2 l0_2.length c0_2, .slice A0_3 l0_3.length c0_3, .slice A0_4 l0_4.length c0_4], .slice Ao9 t173.length co9] rfl (by (try simp only [List.map_toArray, List.map_cons, List.map_nil]); first | done | rfl) ?_; (with_reducible refine (ternsim_given.calls k a0_0 _ _ l0_1 _ _ l0_2 _ _ l0_3 _ _ l0_4 _ _ t173 t177 _ ?side1 ?side2 ?side3 ?side4 ?side5 ?side6 ?side7 ?side8 ?side9 ?side10 A4.out).mono ?_); (case side1 => exact cl_ (Kd.C_below HR0_1.out HB.out)); (case side2 => exact HC0_1.out); (case side3 => exact cl_ (Kd.C_below HR0_2.out HB.out)); (case side4 => exact HC0_2.out); (case side5 => exact cl_ (Kd.C_below HR0_3.out HB.out)); (case side6 => exact HC0_3.out); (case side7 => exact cl_ (Kd.C_below HR0_4.out HB.out)); (case side8 => exact HC0_4.out); (case side9 => exact cl_ (Kd.N_reads' HO175.out).2.2); (case side10 => exact (Kd.N_reads' HO175.out).2.1); rintro e w10 ⟨v178, rfl, ho0, hb⟩; refine ⟨_, rfl, ?_⟩; have n0_ := M_ (Kd.N_elder' (by (with_reducible repeat (first | apply a6_ | apply a7_ | apply a8_)); exact HO175.out) (Kd.R_base ho0) hb); have n1_ := M_ (Kd.R_lower ho0 (below_size (ws_ HB.out))); clear HO175; have HO175 := n0_; have HO179 := n1_; replace BK172 := bb_ BK172 hb; replace HB := wb_ HB hb; clear n0_ n1_; (try clear hb); (try clear hb2); (try clear hk); (try clear hi); (try clear ho0)))
  go_ret2
  exact ⟨_, by first | rfl | (simp [errW_none, errW_some] <;> rfl) | (simp [*, errW_none, errW_some] <;> rfl), by (with_reducible repeat (first | apply a0_ | apply a1_ | apply a2_)); exact HO179.out, by repeat (first | (with_reducible first | exact HB.out | apply b0_ | apply b1_ | apply b2_ | refine below_set ?_ GE172.out) | exact HB.out)⟩
 ·rw [if_neg c3] at H
  have c3b0 : (t176 == 0) = false := beq_eq_false_iff_ne.mpr c3
  have c3b1 : (t176 != 0) = true := bne_iff_ne.mpr c3
  simp only [Option.some.injEq, Prod.mk.injEq] at H
  obtain ⟨rfl, rfl⟩ := H
  go_enter Try.func15, Try.ntmps15
  go_wp2_with (first | ((with_reducible refine gate_dst (N := 1) rfl ?_); refine box_event ?hg (N := 1) ?hd (cs := #[.int .i64 a0_0, .slice A0_1 l0_1.length c0_1, .slice A0_2 l0_2.length c0_2, .slice A0_3 l0_3.length c0_3, .slice A0_4 l0_4.length c0_4]) (t := 26) ?hr ?_; (case hd => rfl); (case hg => rfl); (case hr => first | (go_simp; done) | (go_simp; rfl)); intro gb172 hg w11 hbox hb; have n1_ := M_ (hbox); have n2_ := M_ ((by rw [hg]; exact (below_size (wl_ HB.out)) : w.heap.size ≤ gb172)); have n3_ := M_ ((by rw [hg]; exact (below_size (wl_ HB.out)) : w.heap.size ≤ gb172)); replace HB := wb_ HB hb; have BK172 := n1_; have GW172 := n2_; have GE172 := n3_; have gi172 : Ge _ _ := ⟨GE172.out⟩; clear n1_ n2_ n3_; clear hb hbox hg; obtain ⟨hcz12_0, hcz12_1, hcz12_2, hcz12_3, hcz12_4⟩ := cz5_ BK172.out; have hfz12_0 := blk_frozen BK172.out 0; have hfz12_1 := blk_frozen BK172.out 1; have hfz12_2 := blk_frozen BK172.out 2; have hfz12_3 := blk_frozen BK172.out 3; have hfz12_4 := blk_frozen BK172.out 4) | ((with_reducible refine gate_callee (f := 12) rfl ?_); refine goesL_ (some 8) rfl rfl Try.func12 (by kernel_rfl) rfl #[.agg #[.int .i64 a0_0, .slice A0_1 l0_1.length c0_1, .slice A0_2 l0_2.length c0_2, .slice A0_3 l0_3.length c0_3, .slice A0_4 l0_4.length c0_4]] rfl (by (try simp only [List.map_toArray, List.map_cons, List.map_nil]); first | done | rfl) ?_; (with_reducible refine (ternsim_States.calls k a0_0 _ _ l0_1 _ _ l0_2 _ _ l0_3 _ _ l0_4 t173 t176 _ ?side1 ?side2 ?side3 ?side4 ?side5 ?side6 ?side7 ?side8 A2.out).mono ?_); (case side1 => exact cl_ (Kd.C_below HR0_1.out HB.out)); (case side2 => exact HC0_1.out); (case side3 => exact cl_ (Kd.C_below HR0_2.out HB.out)); (case side4 => exact HC0_2.out); (case side5 => exact cl_ (Kd.C_below HR0_3.out HB.out)); (case side6 => exact HC0_3.out); (case side7 => exact cl_ (Kd.C_below HR0_4.out HB.out)); (case side8 => exact HC0_4.out); rintro e w13 ⟨v174, rfl, ho0, hb⟩; refine ⟨_, rfl, ?_⟩; have n0_ := M_ (Kd.N_lower (Kd.N_mono (ok' := fun k_ => k_ ≠ gb172) ho0 (fun k_ hk_ => (Kd.freshB (bl_ BK172.out) k_ hk_))) (below_size (ws_ HB.out))); have HO175 := n0_; replace BK172 := bb_ BK172 hb; replace HB := wb_ HB hb; clear n0_; (try clear hb); (try clear hb2); (try clear hk); (try clear hi); (try clear ho0)))
  go_ret2
  exact ⟨_, by first | rfl | (simp [errW_none, errW_some] <;> rfl) | (simp [*, errW_none, errW_some] <;> rfl), by first | exact Kd.R_nil _ _ _ _ _ | exact Kd.N_nil _ _ _ _ _ | exact Kd.V_nil _ _ _ _ _ | exact Kd.Q_nil _ _ _ _ _ | exact Kd.S_nil _ _ _ _ _, by repeat (first | (with_reducible first | exact HB.out | apply b0_ | apply b1_ | apply b2_ | refine below_set ?_ GE172.out) | exact HB.out)⟩

def gates_Vars.f (a0_0 : Int) (l0_1 : List S36) (l0_2 : List S69) (l0_3 : List Int) (l0_4 : List Int) : Option (Int × Int) :=
 (gates_Check.f a0_0 l0_1 l0_2 l0_3 l0_4).bind fun e => if e = 0 then some (wrap64 (st3 a0_0 l0_1.length l0_2.length - 1), 0) else some (0, e)
set_option maxHeartbeats 4000000 in
set_option maxRecDepth 100000 in
theorem gates_Vars.calls (a0_0 : Int) (A0_1 : Option Addr) (c0_1 : Nat) (l0_1 : List S36) (A0_2 : Option Addr) (c0_2 : Nat) (l0_2 : List S69) (A0_3 : Option Addr) (c0_3 : Nat) (l0_3 : List Int) (A0_4 : Option Addr) (c0_4 : Nat) (l0_4 : List Int) (r1 r2 : Int) (w : World) (hr0_1 : Kd.C k36 w A0_1 l0_1.length l0_1) (hc0_1 : l0_1.length ≤ c0_1) (hr0_2 : Kd.C k69 w A0_2 l0_2.length l0_2) (hc0_2 : l0_2.length ≤ c0_2) (hr0_3 : Kd.C (Kd.int .i64) w A0_3 l0_3.length l0_3) (hc0_3 : l0_3.length ≤ c0_3) (hr0_4 : Kd.C (Kd.int .i64) w A0_4 l0_4.length l0_4) (hc0_4 : l0_4.length ≤ c0_4) (h : gates_Vars.f a0_0 l0_1 l0_2 l0_3 l0_4 = some (r1, r2)) :
  Calls Try.prog 47 #[.agg #[.int .i64 a0_0, .slice A0_1 l0_1.length c0_1, .slice A0_2 l0_2.length c0_2, .slice A0_3 l0_3.length c0_3, .slice A0_4 l0_4.length c0_4]] w fun e w' => e = .returned (.tuple #[.int .i64 r1, .int .i64 r2]) ∧ Below w.heap.size w w' := by
 have hu26 := Try.underlying26
 have hu69 := Try.underlying69
 have hu127 := Try.underlying127
 have ha3 := arr3
 have HR0_1 := M_ hr0_1
 have HR0_2 := M_ hr0_2
 have HR0_3 := M_ hr0_3
 have HR0_4 := M_ hr0_4
 have HC0_1 := M_ hc0_1
 have HC0_2 := M_ hc0_2
 have HC0_3 := M_ hc0_3
 have HC0_4 := M_ hc0_4
 clear hr0_1 hr0_2 hr0_3 hr0_4 hc0_1 hc0_2 hc0_3 hc0_4
 unfold gates_Vars.f at h
 obtain ⟨e0, he, h⟩ := Option.bind_eq_some_iff.mp h
 have HE := M_ he
 clear he
 by_cases c : e0 = 0
 ·rw [if_pos c] at h
  simp only [Option.some.injEq, Prod.mk.injEq] at h
  obtain ⟨rfl, rfl⟩ := h
  have b : (e0 != 0) = false := bne_eq_false_iff_eq.mpr c
  clear c
  go_enter Try.func47, Try.ntmps47
  go_wp2_with (first | (go_at_call 59; (with_reducible refine (gates_Check.calls a0_0 _ _ l0_1 _ _ l0_2 _ _ l0_3 _ _ l0_4 e0 _ ?s1 ?s2 ?s3 ?s4 ?s5 ?s6 ?s7 ?s8 HE.out).mono ?_); (case s1 => exact Kd.C_below HR0_1.out (below_alloc (Below.refl _ _) _)); (case s2 => exact HC0_1.out); (case s3 => exact Kd.C_below HR0_2.out (below_alloc (Below.refl _ _) _)); (case s4 => exact HC0_2.out); (case s5 => exact Kd.C_below HR0_3.out (below_alloc (Below.refl _ _) _)); (case s6 => exact HC0_3.out); (case s7 => exact Kd.C_below HR0_4.out (below_alloc (Below.refl _ _) _)); (case s8 => exact HC0_4.out); rintro e w1 ⟨rfl, hb⟩; have HB := M_ (below_step (below_alloc (Below.refl _ _) _) hb); have BK := M_ (blk_below (blk_new w (.cells #[.int .i64 a0_0, .slice A0_1 l0_1.length c0_1, .slice A0_2 l0_2.length c0_2, .slice A0_3 l0_3.length c0_3, .slice A0_4 l0_4.length c0_4] 26)) hb); have k1 := blk_cell BK.out 1; have k2 := blk_cell BK.out 2; have k3 := blk_cell BK.out 3; have k4 := blk_cell BK.out 4; have k0 := blk_cell BK.out 0; simp only [List.getElem?_toArray, List.getElem?_cons_succ, List.getElem?_cons_zero] at k0 k1 k2 k3 k4; clear hb) | (go_at_call 83; (with_reducible refine (starts_calls a0_0 _ l0_1.length _ _ l0_2.length _ _ l0_3.length _ _ l0_4.length _ _).mono ?_); rintro e w2 ⟨rfl, hb⟩; have HB2 := M_ (below_step HB.out hb); clear hb))
  go_ret2
  exact ⟨by simp, HB2.out⟩
 ·rw [if_neg c] at h
  simp only [Option.some.injEq, Prod.mk.injEq] at h
  obtain ⟨rfl, rfl⟩ := h
  have b : (e0 != 0) = true := bne_iff_ne.mpr c
  clear c
  go_enter Try.func47, Try.ntmps47
  go_wp2_with (first | (go_at_call 59; (with_reducible refine (gates_Check.calls a0_0 _ _ l0_1 _ _ l0_2 _ _ l0_3 _ _ l0_4 e0 _ ?s1 ?s2 ?s3 ?s4 ?s5 ?s6 ?s7 ?s8 HE.out).mono ?_); (case s1 => exact Kd.C_below HR0_1.out (below_alloc (Below.refl _ _) _)); (case s2 => exact HC0_1.out); (case s3 => exact Kd.C_below HR0_2.out (below_alloc (Below.refl _ _) _)); (case s4 => exact HC0_2.out); (case s5 => exact Kd.C_below HR0_3.out (below_alloc (Below.refl _ _) _)); (case s6 => exact HC0_3.out); (case s7 => exact Kd.C_below HR0_4.out (below_alloc (Below.refl _ _) _)); (case s8 => exact HC0_4.out); rintro e w1 ⟨rfl, hb⟩; have HB := M_ (below_step (below_alloc (Below.refl _ _) _) hb); have BK := M_ (blk_below (blk_new w (.cells #[.int .i64 a0_0, .slice A0_1 l0_1.length c0_1, .slice A0_2 l0_2.length c0_2, .slice A0_3 l0_3.length c0_3, .slice A0_4 l0_4.length c0_4] 26)) hb); have k1 := blk_cell BK.out 1; have k2 := blk_cell BK.out 2; have k3 := blk_cell BK.out 3; have k4 := blk_cell BK.out 4; have k0 := blk_cell BK.out 0; simp only [List.getElem?_toArray, List.getElem?_cons_succ, List.getElem?_cons_zero] at k0 k1 k2 k3 k4; clear hb) | (go_at_call 83; (with_reducible refine (starts_calls a0_0 _ l0_1.length _ _ l0_2.length _ _ l0_3.length _ _ l0_4.length _ _).mono ?_); rintro e w2 ⟨rfl, hb⟩; have HB2 := M_ (below_step HB.out hb); clear hb))
  go_ret2
  exact ⟨by simp, HB.out⟩

theorem infoI : (Try.prog.info? 3).map (fun i => (i.zero, i.size, i.bytes)) = some (some (.int .i64 0), 1, 8) := by kernel_rfl
def slices_Clone_int_int.f (l0 : List Int) : Option (List Int) := if l0.length ≤ 1000000000 then some l0 else none
set_option maxHeartbeats 2000000 in
set_option maxRecDepth 100000 in
theorem slices_Clone_int_int.calls (A0 : Option Addr) (c0 : Nat) (l0 : List Int) (r : List Int) (w : World) (hr0 : Kd.C (Kd.int .i64) w A0 l0.length l0) (hc0 : l0.length ≤ c0) (h : slices_Clone_int_int.f l0 = some r) :
  Calls Try.prog 51 #[.slice A0 l0.length c0] w fun e w' => ∃ v0_ : Value, e = .returned (v0_) ∧ Kd.R (Kd.int .i64) 3 w' w.heap.size (fun _ => True) v0_ r ∧ Below w.heap.size w w' := by
 have hu24 := Try.underlying24
 have hu3 := Try.underlying3
 have q22 : ∀ (w : World) (a : Option Addr) (n c n' c' : Nat), (binOp .eql 24 (.slice a n c) (.slice none n' c')).run Try.prog w = .ok (.bool a.isNone) w := fun w a n c n' c' => Lib.run_eql_slice_nil w _ _ a n c n' c' Try.underlying24
 unfold slices_Clone_int_int.f at h
 split at h
 ·rename_i hb
  obtain rfl := Option.some.inj h
  clear h
  cases A0 with
  | none =>
   have hl : l0.length = 0 := by
    rcases Nat.eq_zero_or_pos l0.length with h | h
    ·exact h
    ·obtain ⟨ad, e, _⟩ := hr0.2.2 h
     cases e
   have hn := List.eq_nil_of_length_eq_zero hl
   subst hn
   clear hr0 hb hl hc0
   go_enter Try.func51, Try.ntmps51
   go_wp2
   go_ret
   exact ⟨_, rfl, Kd.R_nil _ _ _ _ _, Below.refl _ _⟩
  | some ad =>
   have HR := M_ hr0
   have HL := M_ (show (([] : List Int).length + l0.length) * 8 ≤ 140737488355328 by simp; omega)
   clear hr0 hb hc0
   go_enter Try.func51, Try.ntmps51
   go_wp2_with (at_builtin; go_loud (refine Kd.R_append_row (Value.int .i64) (0 : Int) (w0 := w) w.heap.size rfl _ _ 24 3 (.int .i64 0) 8 rfl hu24 infoI rfl (by decide) _ [] l0 _ l0.length c0 (fun _ => True) rfl rfl (fun _ _ => trivial) ?aO (Kd.C_below HR.out (below_alloc (Below.refl _ _) _)) (below_alloc (Below.refl _ _) _) (by simp) HL.out ?_; (case aO => exact Kd.R_of_own (World.ownsRow_made w #[] 0 (Nat.le_refl _) (Nat.zero_le _) rfl) (fun _ _ => trivial)); intro v2 w2 hR2 hb2 hg hat; clear hg hat; have HV2 := M_ hR2; have HB2 := M_ hb2; clear hR2 hb2))
   go_ret
   exact ⟨_, rfl, HV2.out, HB2.out⟩
 ·simp at h

end Go.Proofs.Ytmcdanpecajklaa.QTernsimValues
