/- The walk of TernaryNames: what the law function does, step by step, given what the functions that it calls return. -/
import Derived.Test.YtddelmbkbpoelaaQTernaryCoversx0
import Derived.Test.YtddelmbkbpoelaaQTernaryCoversx1
import Derived.Test.YtddelmbkbpoelaaQTernaryCoversx3
import Derived.Test.YtddelmbkbpoelaaQTernaryCoversx4
import Derived.Test.YtddelmbkbpoelaaQTernaryNamesF
import Derived.Deep.CutBlock
import Derived.Deep.RegionLaw
namespace Go.Proofs.Ytddelmbkbpoelaa.QTernaryNames
open Go.RowKit Go.Proofs.YtddelmbkbpoelaaW.PrintWords Go.Proofs.YtddelmbkbpoelaaW.PrintLast Go.Proofs.YtddelmbkbpoelaaW.PrintMore Go.Proofs.Ytddelmbkbpoelaa.QTernaryCovers
attribute [local go_sem] max2_int min2_int max_two min_two max_three min_three max_four min_four
set_option linter.unusedVariables false
set_option linter.unusedSimpArgs false
/-- PrintLast: the operations of the list L, in its order, are taken first. -/
theorem tk_ (L : List Nat) {P : Program} {ops : Array Oper} {Q : Exit → Act → World → Prop} {S : World → Prop} {ds : List Nat} {oi : Oper} {v : Value} {fuel : Nat} {l : Array Bool} {a : Act} {w : World} (hi : ops[L.getD (ops.size - (fuel + 1)) 0]? = some oi)
    (hc : (Region.noSelect ops && Region.free .any ops l (L.getD (ops.size - (fuel + 1)) 0) && (Region.ready .any ops l).contains (L.getD (ops.size - (fuel + 1)) 0) && Region.closedB .any ops l && Region.lastB .any ops l ds (L.getD (ops.size - (fuel + 1)) 0)) = true)
    (hQ : ∀ c a w, Q (.panic c) (a.put oi.dst v) w → Q (.panic c) a w) (hy : YieldsIf P ops S oi v a) (hS : S w)
    (h : wpAnyLast P .any ops Q S ds fuel (l.setIfInBounds (L.getD (ops.size - (fuel + 1)) 0) true) (a.put oi.dst v) w) : wpAnyLast P .any ops Q S ds (fuel + 1) l a w := by
  simp only [Bool.and_eq_true] at hc
  exact wpAnyLast_take hi hc.1.1.1.1 hc.1.1.1.2 hc.1.1.2 hc.1.2 hc.2 hQ hy hS h
theorem os_ (i : Nat) {P : Program} {ops : Array Oper} {Q : Exit → Act → World → Prop} {S : World → Prop} {ds : List Nat} {o : Oper} {fuel : Nat} {l : Array Bool} {a : Act} {w : World} (hi : ops[i]? = some o)
    (hc : ((Region.ready .any ops l == [i]) && !ds.contains i) = true)
    (h : ∀ K : Act → World → Prop, Shut (∀ a w, S w → (S w → wpAnyLast P .any ops Q S ds fuel (l.setIfInBounds i true) a w) → K a w) → if Region.wanted o (yielded ops a.tmps) = true then Oper.wp P o a w K Q else K (a.put o.dst undef) w) : wpAnyLast P .any ops Q S ds (fuel + 1) l a w := by
  simp at hc
  exact wpAnyLast_ready hc.1 (by simp) (AllReadyL.cons hi hc.2 h AllReadyL.nil)
theorem ol_ (i : Nat) {P : Program} {ops : Array Oper} {Q : Exit → Act → World → Prop} {S : World → Prop} {ds : List Nat} {o : Oper} {fuel : Nat} {l : Array Bool} {a : Act} {w : World} (hi : ops[i]? = some o)
    (hc : ((Region.ready .any ops l == [i]) && ds.contains i) = true)
    (h : ∀ K : Act → World → Prop, Shut (∀ a w, wpAnyLast P .any ops Q S ds fuel (l.setIfInBounds i true) a w → K a w) → if Region.wanted o (yielded ops a.tmps) = true then Oper.wp P o a w K Q else K (a.put o.dst undef) w) : wpAnyLast P .any ops Q S ds (fuel + 1) l a w := by
  simp at hc
  exact wpAnyLast_ready hc.1 (by simp) (AllReadyL.cons_last hi hc.2 h AllReadyL.nil)
set_option maxHeartbeats 8000000 in
set_option maxRecDepth 100000 in
theorem names_walk (k : Nat) (w : World) (b0 : spiritlevellaw05_both.f k 0 0 = some 0) (b1 : spiritlevellaw05_both.f k 0 1 = some 0) (b2 : spiritlevellaw05_both.f k 0 2 = some 0) (b3 : spiritlevellaw05_both.f k 1 0 = some 0) (b4 : spiritlevellaw05_both.f k 1 1 = some 1) (b5 : spiritlevellaw05_both.f k 1 2 = some 2) (b6 : spiritlevellaw05_both.f k 2 0 = some 0) (b7 : spiritlevellaw05_both.f k 2 1 = some 2) (b8 : spiritlevellaw05_both.f k 2 2 = some 2) (n0 : ternary_Not.f 0 = some (1, 0)) (n1 : ternary_Not.f 1 = some (0, 0)) (n2 : ternary_Not.f 2 = some (2, 0)) (v0 : ternary_Covers.f k [0] [0] = some (true, 0)) (v1 : ternary_Covers.f k [0] [1] = some (false, 0)) (v2 : ternary_Covers.f k [0] [2] = some (false, 0)) (v3 : ternary_Covers.f k [1] [0] = some (false, 0)) (v4 : ternary_Covers.f k [1] [1] = some (true, 0)) (v5 : ternary_Covers.f k [1] [2] = some (false, 0)) (v6 : ternary_Covers.f k [2] [0] = some (true, 0)) (v7 : ternary_Covers.f k [2] [1] = some (true, 0)) (v8 : ternary_Covers.f k [2] [2] = some (true, 0)) (d1 : ternary_And.f k 3 0 = some (0, 8)) (d2 : ternary_And.f k 0 255 = some (0, 8)) (d3 : ternary_Not.f 3 = some (0, 8)) (e1 : ternary_Covers.f k [3] [] = some (false, 8)) (e2 : ternary_Covers.f k [] [3] = some (false, 8)) (e3 : ternary_Covers.f k [0] [] = some (false, 2)) (g1 : ternary_All.f k 1 [⟨5, 1⟩] [] [] [] [3] [] = some ([], 2)) (g2 : ternary_Next.f k 1 [⟨5, 1⟩] [] [] [] [3] [0] = some ([], 8)) (g3 : ternary_All.f k 1 [⟨5, 1⟩] [] [] [] [0] [4] = some ([], 8)) (g4 : ternary_Next.f k (-1) [] [] [] [] [] [] = some ([], 8)) (g5 : ternary_First.f k 1001 [] [] [] [] = some ([], 4)) (g6 : ternary_First.f k 1 [⟨5, 1⟩] [] [] [] = some ([1], 0)) (g7 : ternary_Next.f k 1 [⟨5, 1⟩] [] [] [] [2] [0] = some ([2], 0)) (s1 : spiritlevelref05_Same.f k [1] [1] = some true) (s2 : spiritlevelref05_Same.f k [2] [2] = some true) (al : spiritlevellaw05_alive.f k = some true) :
    Calls Try.prog 8 #[] w fun e w' => e = .returned (.bool true) ∧ Below w.heap.size w w' := by
  have B0_ := Aside0.mk b0
  clear b0
  have B1_ := Aside0.mk b1
  clear b1
  have B2_ := Aside0.mk b2
  clear b2
  have B3_ := Aside0.mk b3
  clear b3
  have B4_ := Aside0.mk b4
  clear b4
  have B5_ := Aside0.mk b5
  clear b5
  have B6_ := Aside0.mk b6
  clear b6
  have B7_ := Aside0.mk b7
  clear b7
  have B8_ := Aside0.mk b8
  clear b8
  have N0_ := Aside0.mk n0
  clear n0
  have N1_ := Aside0.mk n1
  clear n1
  have N2_ := Aside0.mk n2
  clear n2
  have V0_ := Aside0.mk v0
  clear v0
  have V1_ := Aside0.mk v1
  clear v1
  have V2_ := Aside0.mk v2
  clear v2
  have V3_ := Aside0.mk v3
  clear v3
  have V4_ := Aside0.mk v4
  clear v4
  have V5_ := Aside0.mk v5
  clear v5
  have V6_ := Aside0.mk v6
  clear v6
  have V7_ := Aside0.mk v7
  clear v7
  have V8_ := Aside0.mk v8
  clear v8
  have D1_ := Aside0.mk d1
  clear d1
  have D2_ := Aside0.mk d2
  clear d2
  have D3_ := Aside0.mk d3
  clear d3
  have E1_ := Aside0.mk e1
  clear e1
  have E2_ := Aside0.mk e2
  clear e2
  have E3_ := Aside0.mk e3
  clear e3
  have G1_ := Aside0.mk g1
  clear g1
  have G2_ := Aside0.mk g2
  clear g2
  have G3_ := Aside0.mk g3
  clear g3
  have G4_ := Aside0.mk g4
  clear g4
  have G5_ := Aside0.mk g5
  clear g5
  have G6_ := Aside0.mk g6
  clear g6
  have G7_ := Aside0.mk g7
  clear g7
  have S1_ := Aside0.mk s1
  clear s1
  have S2_ := Aside0.mk s2
  clear s2
  have AL_ := Aside0.mk al
  clear al
  go_enter Try.func8, Try.ntmps8
  go_upto_region 3 with fail
  obtain ⟨wb, hwb⟩ : ∃ x, x = (w.alloc (.cells #[.int .u8 0, .int .u8 0, .int .u8 0, .int .u8 0, .int .u8 1, .int .u8 2, .int .u8 0, .int .u8 2, .int .u8 2] 58)).alloc (.cells #[.int .u8 1, .int .u8 0, .int .u8 2] 59) := ⟨_, rfl⟩
  have B1 : Aside0 (wb.heap[w.heap.size]? = some (.cells #[.int .u8 0, .int .u8 0, .int .u8 0, .int .u8 0, .int .u8 1, .int .u8 2, .int .u8 0, .int .u8 2, .int .u8 2] 58 (0, 0))) := ⟨by rw [hwb]; exact blk_alloc (heap_alloc_new w _) _⟩
  have B2 : Aside0 (wb.heap[w.heap.size + 1]? = some (.cells #[.int .u8 1, .int .u8 0, .int .u8 2] 59 (0, 0))) := ⟨by rw [hwb]; simpa using heap_alloc_new (w.alloc (.cells #[.int .u8 0, .int .u8 0, .int .u8 0, .int .u8 0, .int .u8 1, .int .u8 2, .int .u8 0, .int .u8 2, .int .u8 2] 58)) (.cells #[.int .u8 1, .int .u8 0, .int .u8 2] 59)⟩
  have HBW : Aside0 (Below w.heap.size w wb) := ⟨by rw [hwb]; exact below_alloc (below_alloc (Below.refl _ _) _) _⟩
  rw [← hwb]
  clear hwb
  go_upto_block 0 with fail
  go_cut [] (fun wx => Aside0 (Below w.heap.size w wx))
  case first =>
    go_wp2
    go_loopg [3] 10 (fun kq v3 w' => ∃ i : Int, v3 = .int .i64 i ∧ Aside0 (0 ≤ i ∧ i ≤ 9 ∧ (kq : Int) + i = 10) ∧ Aside0 (Below wb.heap.size wb w'))
    case atStart => exact ⟨0, rfl, ⟨by omega, by omega, by omega⟩, ⟨Below.refl _ _⟩⟩
    case round =>
      obtain ⟨i, rfl, HI, HBI⟩ := hrel
      rcases (show i = 0 ∨ i = 1 ∨ i = 2 ∨ i = 3 ∨ i = 4 ∨ i = 5 ∨ i = 6 ∨ i = 7 ∨ i = 8 ∨ i = 9 by have := HI.out; omega) with rfl | rfl | rfl | rfl | rfl | rfl | rfl | rfl | rfl | rfl
      · go_upto_region 7 with fail
        go_upto_region 8 with ((with_reducible refine gate_callee (f := 12) rfl ?_); refine goesL_ (some 51) rfl rfl Try.func12 (by kernel_rfl) rfl #[.int .u8 0] rfl (by (try simp only [List.map_toArray, List.map_cons, List.map_nil]); first | done | rfl) ?_; (with_reducible refine (ternary_Not.calls 0 1 0 _ N0_.out).mono ?_); rintro e w5 ⟨rfl, hb⟩; refine ⟨_, rfl, ?_⟩; have N_ := Aside0.mk (below_step HBI.out hb); clear HBI; have HBI := N_; clear N_; clear hb)
        go_upto_region 9 with (first
            | ((with_reducible refine gate_dst (N := 56) rfl ?_); refine Kd.R_lit (Kd.int .u8) _ 5 ?hg (N := 56) ?hd (xs := ([0] : List Int)) (inner := [.int .u8 0]) (ok := fun _ => True) (okp := fun _ => True) ?hr ?hp (fun _ hk => hk) trivial (Below.refl _ _) (Nat.le_refl _) (by simp) ?_; (case hd => rfl); (case hg => rfl); (case hr => first | (go_simp; done) | (go_simp; rfl)); (case hp => exact (Reps.one (show Kd.M (Kd.int .u8) _ _ _ 0 [.int .u8 0] from rfl) (Reps.none _ _))); intro v1 w1 ho hb hg hn; clear hg hn; have N_ := Aside0.mk (below_step HBI.out hb); clear HBI; have HBI := N_; clear N_; obtain ⟨A0, c0, rfl⟩ := Kd.R_slice ho; have L0 := Aside0.mk (Kd.R_lower ho (Nat.zero_le _)); have H0 := Aside0.mk (Kd.R_reads' ho).2.1; clear ho hb)
            | ((with_reducible refine gate_dst (N := 58) rfl ?_); refine Kd.R_lit (Kd.int .u8) _ 5 ?hg (N := 58) ?hd (xs := ([0] : List Int)) (inner := [.int .u8 0]) (ok := fun _ => True) (okp := fun _ => True) ?hr ?hp (fun _ hk => hk) trivial (Below.refl _ _) (Nat.le_refl _) (by simp) ?_; (case hd => rfl); (case hg => rfl); (case hr => first | (go_simp; done) | (go_simp; rfl)); (case hp => exact (Reps.one (show Kd.M (Kd.int .u8) _ _ _ 0 [.int .u8 0] from rfl) (Reps.none _ _))); intro v1 w1 ho hb hg hn; clear hg hn; have N_ := Aside0.mk (below_step HBI.out hb); clear HBI; have HBI := N_; clear N_; have N_ := Aside0.mk (Kd.R_below L0.out hb); clear L0; have L0 := N_; clear N_; obtain ⟨A1, c1, rfl⟩ := Kd.R_slice ho; have L1 := Aside0.mk (Kd.R_lower ho (Nat.zero_le _)); have H1 := Aside0.mk (Kd.R_reads' ho).2.1; clear ho hb)
            | ((with_reducible refine gate_callee (f := 14) rfl ?_); refine goesL_ (some 59) rfl rfl Try.func14 (by kernel_rfl) rfl #[.slice A0 ([0] : List Int).length c0, .slice A1 ([0] : List Int).length c1] rfl (by (try simp only [List.map_toArray, List.map_cons, List.map_nil]); first | done | rfl) ?_; (with_reducible refine (ternary_Covers.calls k _ _ ([0] : List Int) _ _ ([0] : List Int) true 0 _ ?s0 ?s1 ?s2 ?s3 V0_.out).mono ?_); (case s0 => exact (Kd.R_reads' L0.out).2.2); (case s1 => exact H0.out); (case s2 => exact (Kd.R_reads' L1.out).2.2); (case s3 => exact H1.out); rintro e w5 ⟨rfl, hb⟩; refine ⟨_, rfl, ?_⟩; have N_ := Aside0.mk (below_step HBI.out hb); clear HBI; have HBI := N_; clear N_; clear hb L0 L1 H0 H1))
        have HBD := Aside0.mk (below_step HBI.out (below_drew (Below.refl _ _)))
        have x1 := (blk_cell (blk_below B1.out HBD.out) 0).trans (show _ = some (.int .u8 0) from rfl)
        have x2 := (blk_cell (blk_below B2.out HBD.out) 0).trans (show _ = some (.int .u8 1) from rfl)
        refine wp_region_last_drew (S := fun w' => w'.cell? ⟨w.heap.size, 0, none⟩ = some (.int .u8 0) ∧ w'.cell? ⟨w.heap.size + 1, 0, none⟩ = some (.int .u8 1)) (ds := []) (by kernel_rfl) ⟨x1, x2⟩ (fun hH => ?_)
        iterate 5 (refine tk_ [0,1,3,4,5,2,6,7,8,9,10,11,12,13,14,15,16,17,18,19,20,21,22,23,24,25,26,27,28,29,30,31,32] (v := ?_) (by simp; rfl) (by kernel_rfl) (by exact fun _ _ _ h => h) (Or.inl ⟨by rfl, ?_⟩) hH ?_; rotate_left; (intro _ hS; (try dsimp only at hS); go_simp; (try with_reducible rfl)); simp only [Act.put, List.setIfInBounds_toArray, List.set_cons_zero, List.set_cons_succ])
        refine os_ 2 (by simp; rfl) (by kernel_rfl) (fun K hK => ?_)
        refine goes_ Try.func17 (by kernel_rfl) rfl #[.int .u8 0, .int .u8 0] (by rfl) rfl rfl (by (try simp only [List.map_toArray, List.map_cons, List.map_nil]); first | done | rfl) ?_
        refine (spiritlevellaw05_both.calls k 0 0 0 _ B0_.out).mono ?_
        rintro e w5 ⟨rfl, hb⟩
        refine ⟨_, rfl, ?_⟩
        have HBE := Aside0.mk (below_step HBD.out hb)
        refine hK.out _ _ ⟨pw_cell_below hb x1, pw_cell_below hb x2⟩ (fun hH => ?_)
        clear hK K hb x1 x2 HBD
        iterate 27 (refine tk_ [0,1,3,4,5,2,6,7,8,9,10,11,12,13,14,15,16,17,18,19,20,21,22,23,24,25,26,27,28,29,30,31,32] (v := ?_) (by simp; rfl) (by kernel_rfl) (by exact fun _ _ _ h => h) (Or.inl ⟨by rfl, ?_⟩) hH ?_; rotate_left; (intro _ hS; (try dsimp only at hS); go_simp; (try with_reducible rfl)); simp only [Act.put, List.setIfInBounds_toArray, List.set_cons_zero, List.set_cons_succ])
        refine wpAnyLast_done (by kernel_rfl) ?_ _
        clear hH
        go_wp2
        go_roundg (gk - 1)
        case rel => exact ⟨1, rfl, ⟨by omega, by omega, by have := HI.out; omega⟩, HBE⟩
        case measure => have := HI.out; omega
      · go_upto_region 7 with fail
        go_upto_region 8 with ((with_reducible refine gate_callee (f := 12) rfl ?_); refine goesL_ (some 51) rfl rfl Try.func12 (by kernel_rfl) rfl #[.int .u8 0] rfl (by (try simp only [List.map_toArray, List.map_cons, List.map_nil]); first | done | rfl) ?_; (with_reducible refine (ternary_Not.calls 0 1 0 _ N0_.out).mono ?_); rintro e w5 ⟨rfl, hb⟩; refine ⟨_, rfl, ?_⟩; have N_ := Aside0.mk (below_step HBI.out hb); clear HBI; have HBI := N_; clear N_; clear hb)
        go_upto_region 9 with (first
            | ((with_reducible refine gate_dst (N := 56) rfl ?_); refine Kd.R_lit (Kd.int .u8) _ 5 ?hg (N := 56) ?hd (xs := ([0] : List Int)) (inner := [.int .u8 0]) (ok := fun _ => True) (okp := fun _ => True) ?hr ?hp (fun _ hk => hk) trivial (Below.refl _ _) (Nat.le_refl _) (by simp) ?_; (case hd => rfl); (case hg => rfl); (case hr => first | (go_simp; done) | (go_simp; rfl)); (case hp => exact (Reps.one (show Kd.M (Kd.int .u8) _ _ _ 0 [.int .u8 0] from rfl) (Reps.none _ _))); intro v1 w1 ho hb hg hn; clear hg hn; have N_ := Aside0.mk (below_step HBI.out hb); clear HBI; have HBI := N_; clear N_; obtain ⟨A0, c0, rfl⟩ := Kd.R_slice ho; have L0 := Aside0.mk (Kd.R_lower ho (Nat.zero_le _)); have H0 := Aside0.mk (Kd.R_reads' ho).2.1; clear ho hb)
            | ((with_reducible refine gate_dst (N := 58) rfl ?_); refine Kd.R_lit (Kd.int .u8) _ 5 ?hg (N := 58) ?hd (xs := ([1] : List Int)) (inner := [.int .u8 1]) (ok := fun _ => True) (okp := fun _ => True) ?hr ?hp (fun _ hk => hk) trivial (Below.refl _ _) (Nat.le_refl _) (by simp) ?_; (case hd => rfl); (case hg => rfl); (case hr => first | (go_simp; done) | (go_simp; rfl)); (case hp => exact (Reps.one (show Kd.M (Kd.int .u8) _ _ _ 1 [.int .u8 1] from rfl) (Reps.none _ _))); intro v1 w1 ho hb hg hn; clear hg hn; have N_ := Aside0.mk (below_step HBI.out hb); clear HBI; have HBI := N_; clear N_; have N_ := Aside0.mk (Kd.R_below L0.out hb); clear L0; have L0 := N_; clear N_; obtain ⟨A1, c1, rfl⟩ := Kd.R_slice ho; have L1 := Aside0.mk (Kd.R_lower ho (Nat.zero_le _)); have H1 := Aside0.mk (Kd.R_reads' ho).2.1; clear ho hb)
            | ((with_reducible refine gate_callee (f := 14) rfl ?_); refine goesL_ (some 59) rfl rfl Try.func14 (by kernel_rfl) rfl #[.slice A0 ([0] : List Int).length c0, .slice A1 ([1] : List Int).length c1] rfl (by (try simp only [List.map_toArray, List.map_cons, List.map_nil]); first | done | rfl) ?_; (with_reducible refine (ternary_Covers.calls k _ _ ([0] : List Int) _ _ ([1] : List Int) false 0 _ ?s0 ?s1 ?s2 ?s3 V1_.out).mono ?_); (case s0 => exact (Kd.R_reads' L0.out).2.2); (case s1 => exact H0.out); (case s2 => exact (Kd.R_reads' L1.out).2.2); (case s3 => exact H1.out); rintro e w5 ⟨rfl, hb⟩; refine ⟨_, rfl, ?_⟩; have N_ := Aside0.mk (below_step HBI.out hb); clear HBI; have HBI := N_; clear N_; clear hb L0 L1 H0 H1))
        have HBD := Aside0.mk (below_step HBI.out (below_drew (Below.refl _ _)))
        have x1 := (blk_cell (blk_below B1.out HBD.out) 1).trans (show _ = some (.int .u8 0) from rfl)
        have x2 := (blk_cell (blk_below B2.out HBD.out) 0).trans (show _ = some (.int .u8 1) from rfl)
        refine wp_region_last_drew (S := fun w' => w'.cell? ⟨w.heap.size, 1, none⟩ = some (.int .u8 0) ∧ w'.cell? ⟨w.heap.size + 1, 0, none⟩ = some (.int .u8 1)) (ds := []) (by kernel_rfl) ⟨x1, x2⟩ (fun hH => ?_)
        iterate 5 (refine tk_ [0,1,3,4,5,2,6,7,8,9,10,11,12,13,14,15,16,17,18,19,20,21,22,23,24,25,26,27,28,29,30,31,32] (v := ?_) (by simp; rfl) (by kernel_rfl) (by exact fun _ _ _ h => h) (Or.inl ⟨by rfl, ?_⟩) hH ?_; rotate_left; (intro _ hS; (try dsimp only at hS); go_simp; (try with_reducible rfl)); simp only [Act.put, List.setIfInBounds_toArray, List.set_cons_zero, List.set_cons_succ])
        refine os_ 2 (by simp; rfl) (by kernel_rfl) (fun K hK => ?_)
        refine goes_ Try.func17 (by kernel_rfl) rfl #[.int .u8 0, .int .u8 1] (by rfl) rfl rfl (by (try simp only [List.map_toArray, List.map_cons, List.map_nil]); first | done | rfl) ?_
        refine (spiritlevellaw05_both.calls k 0 1 0 _ B1_.out).mono ?_
        rintro e w5 ⟨rfl, hb⟩
        refine ⟨_, rfl, ?_⟩
        have HBE := Aside0.mk (below_step HBD.out hb)
        refine hK.out _ _ ⟨pw_cell_below hb x1, pw_cell_below hb x2⟩ (fun hH => ?_)
        clear hK K hb x1 x2 HBD
        iterate 27 (refine tk_ [0,1,3,4,5,2,6,7,8,9,10,11,12,13,14,15,16,17,18,19,20,21,22,23,24,25,26,27,28,29,30,31,32] (v := ?_) (by simp; rfl) (by kernel_rfl) (by exact fun _ _ _ h => h) (Or.inl ⟨by rfl, ?_⟩) hH ?_; rotate_left; (intro _ hS; (try dsimp only at hS); go_simp; (try with_reducible rfl)); simp only [Act.put, List.setIfInBounds_toArray, List.set_cons_zero, List.set_cons_succ])
        refine wpAnyLast_done (by kernel_rfl) ?_ _
        clear hH
        go_wp2
        go_roundg (gk - 1)
        case rel => exact ⟨2, rfl, ⟨by omega, by omega, by have := HI.out; omega⟩, HBE⟩
        case measure => have := HI.out; omega
      · go_upto_region 7 with fail
        go_upto_region 8 with ((with_reducible refine gate_callee (f := 12) rfl ?_); refine goesL_ (some 51) rfl rfl Try.func12 (by kernel_rfl) rfl #[.int .u8 0] rfl (by (try simp only [List.map_toArray, List.map_cons, List.map_nil]); first | done | rfl) ?_; (with_reducible refine (ternary_Not.calls 0 1 0 _ N0_.out).mono ?_); rintro e w5 ⟨rfl, hb⟩; refine ⟨_, rfl, ?_⟩; have N_ := Aside0.mk (below_step HBI.out hb); clear HBI; have HBI := N_; clear N_; clear hb)
        go_upto_region 9 with (first
            | ((with_reducible refine gate_dst (N := 56) rfl ?_); refine Kd.R_lit (Kd.int .u8) _ 5 ?hg (N := 56) ?hd (xs := ([0] : List Int)) (inner := [.int .u8 0]) (ok := fun _ => True) (okp := fun _ => True) ?hr ?hp (fun _ hk => hk) trivial (Below.refl _ _) (Nat.le_refl _) (by simp) ?_; (case hd => rfl); (case hg => rfl); (case hr => first | (go_simp; done) | (go_simp; rfl)); (case hp => exact (Reps.one (show Kd.M (Kd.int .u8) _ _ _ 0 [.int .u8 0] from rfl) (Reps.none _ _))); intro v1 w1 ho hb hg hn; clear hg hn; have N_ := Aside0.mk (below_step HBI.out hb); clear HBI; have HBI := N_; clear N_; obtain ⟨A0, c0, rfl⟩ := Kd.R_slice ho; have L0 := Aside0.mk (Kd.R_lower ho (Nat.zero_le _)); have H0 := Aside0.mk (Kd.R_reads' ho).2.1; clear ho hb)
            | ((with_reducible refine gate_dst (N := 58) rfl ?_); refine Kd.R_lit (Kd.int .u8) _ 5 ?hg (N := 58) ?hd (xs := ([2] : List Int)) (inner := [.int .u8 2]) (ok := fun _ => True) (okp := fun _ => True) ?hr ?hp (fun _ hk => hk) trivial (Below.refl _ _) (Nat.le_refl _) (by simp) ?_; (case hd => rfl); (case hg => rfl); (case hr => first | (go_simp; done) | (go_simp; rfl)); (case hp => exact (Reps.one (show Kd.M (Kd.int .u8) _ _ _ 2 [.int .u8 2] from rfl) (Reps.none _ _))); intro v1 w1 ho hb hg hn; clear hg hn; have N_ := Aside0.mk (below_step HBI.out hb); clear HBI; have HBI := N_; clear N_; have N_ := Aside0.mk (Kd.R_below L0.out hb); clear L0; have L0 := N_; clear N_; obtain ⟨A1, c1, rfl⟩ := Kd.R_slice ho; have L1 := Aside0.mk (Kd.R_lower ho (Nat.zero_le _)); have H1 := Aside0.mk (Kd.R_reads' ho).2.1; clear ho hb)
            | ((with_reducible refine gate_callee (f := 14) rfl ?_); refine goesL_ (some 59) rfl rfl Try.func14 (by kernel_rfl) rfl #[.slice A0 ([0] : List Int).length c0, .slice A1 ([2] : List Int).length c1] rfl (by (try simp only [List.map_toArray, List.map_cons, List.map_nil]); first | done | rfl) ?_; (with_reducible refine (ternary_Covers.calls k _ _ ([0] : List Int) _ _ ([2] : List Int) false 0 _ ?s0 ?s1 ?s2 ?s3 V2_.out).mono ?_); (case s0 => exact (Kd.R_reads' L0.out).2.2); (case s1 => exact H0.out); (case s2 => exact (Kd.R_reads' L1.out).2.2); (case s3 => exact H1.out); rintro e w5 ⟨rfl, hb⟩; refine ⟨_, rfl, ?_⟩; have N_ := Aside0.mk (below_step HBI.out hb); clear HBI; have HBI := N_; clear N_; clear hb L0 L1 H0 H1))
        have HBD := Aside0.mk (below_step HBI.out (below_drew (Below.refl _ _)))
        have x1 := (blk_cell (blk_below B1.out HBD.out) 2).trans (show _ = some (.int .u8 0) from rfl)
        have x2 := (blk_cell (blk_below B2.out HBD.out) 0).trans (show _ = some (.int .u8 1) from rfl)
        refine wp_region_last_drew (S := fun w' => w'.cell? ⟨w.heap.size, 2, none⟩ = some (.int .u8 0) ∧ w'.cell? ⟨w.heap.size + 1, 0, none⟩ = some (.int .u8 1)) (ds := []) (by kernel_rfl) ⟨x1, x2⟩ (fun hH => ?_)
        iterate 5 (refine tk_ [0,1,3,4,5,2,6,7,8,9,10,11,12,13,14,15,16,17,18,19,20,21,22,23,24,25,26,27,28,29,30,31,32] (v := ?_) (by simp; rfl) (by kernel_rfl) (by exact fun _ _ _ h => h) (Or.inl ⟨by rfl, ?_⟩) hH ?_; rotate_left; (intro _ hS; (try dsimp only at hS); go_simp; (try with_reducible rfl)); simp only [Act.put, List.setIfInBounds_toArray, List.set_cons_zero, List.set_cons_succ])
        refine os_ 2 (by simp; rfl) (by kernel_rfl) (fun K hK => ?_)
        refine goes_ Try.func17 (by kernel_rfl) rfl #[.int .u8 0, .int .u8 2] (by rfl) rfl rfl (by (try simp only [List.map_toArray, List.map_cons, List.map_nil]); first | done | rfl) ?_
        refine (spiritlevellaw05_both.calls k 0 2 0 _ B2_.out).mono ?_
        rintro e w5 ⟨rfl, hb⟩
        refine ⟨_, rfl, ?_⟩
        have HBE := Aside0.mk (below_step HBD.out hb)
        refine hK.out _ _ ⟨pw_cell_below hb x1, pw_cell_below hb x2⟩ (fun hH => ?_)
        clear hK K hb x1 x2 HBD
        iterate 27 (refine tk_ [0,1,3,4,5,2,6,7,8,9,10,11,12,13,14,15,16,17,18,19,20,21,22,23,24,25,26,27,28,29,30,31,32] (v := ?_) (by simp; rfl) (by kernel_rfl) (by exact fun _ _ _ h => h) (Or.inl ⟨by rfl, ?_⟩) hH ?_; rotate_left; (intro _ hS; (try dsimp only at hS); go_simp; (try with_reducible rfl)); simp only [Act.put, List.setIfInBounds_toArray, List.set_cons_zero, List.set_cons_succ])
        refine wpAnyLast_done (by kernel_rfl) ?_ _
        clear hH
        go_wp2
        go_roundg (gk - 1)
        case rel => exact ⟨3, rfl, ⟨by omega, by omega, by have := HI.out; omega⟩, HBE⟩
        case measure => have := HI.out; omega
      · go_upto_region 7 with fail
        go_upto_region 8 with ((with_reducible refine gate_callee (f := 12) rfl ?_); refine goesL_ (some 51) rfl rfl Try.func12 (by kernel_rfl) rfl #[.int .u8 1] rfl (by (try simp only [List.map_toArray, List.map_cons, List.map_nil]); first | done | rfl) ?_; (with_reducible refine (ternary_Not.calls 1 0 0 _ N1_.out).mono ?_); rintro e w5 ⟨rfl, hb⟩; refine ⟨_, rfl, ?_⟩; have N_ := Aside0.mk (below_step HBI.out hb); clear HBI; have HBI := N_; clear N_; clear hb)
        go_upto_region 9 with (first
            | ((with_reducible refine gate_dst (N := 56) rfl ?_); refine Kd.R_lit (Kd.int .u8) _ 5 ?hg (N := 56) ?hd (xs := ([1] : List Int)) (inner := [.int .u8 1]) (ok := fun _ => True) (okp := fun _ => True) ?hr ?hp (fun _ hk => hk) trivial (Below.refl _ _) (Nat.le_refl _) (by simp) ?_; (case hd => rfl); (case hg => rfl); (case hr => first | (go_simp; done) | (go_simp; rfl)); (case hp => exact (Reps.one (show Kd.M (Kd.int .u8) _ _ _ 1 [.int .u8 1] from rfl) (Reps.none _ _))); intro v1 w1 ho hb hg hn; clear hg hn; have N_ := Aside0.mk (below_step HBI.out hb); clear HBI; have HBI := N_; clear N_; obtain ⟨A0, c0, rfl⟩ := Kd.R_slice ho; have L0 := Aside0.mk (Kd.R_lower ho (Nat.zero_le _)); have H0 := Aside0.mk (Kd.R_reads' ho).2.1; clear ho hb)
            | ((with_reducible refine gate_dst (N := 58) rfl ?_); refine Kd.R_lit (Kd.int .u8) _ 5 ?hg (N := 58) ?hd (xs := ([0] : List Int)) (inner := [.int .u8 0]) (ok := fun _ => True) (okp := fun _ => True) ?hr ?hp (fun _ hk => hk) trivial (Below.refl _ _) (Nat.le_refl _) (by simp) ?_; (case hd => rfl); (case hg => rfl); (case hr => first | (go_simp; done) | (go_simp; rfl)); (case hp => exact (Reps.one (show Kd.M (Kd.int .u8) _ _ _ 0 [.int .u8 0] from rfl) (Reps.none _ _))); intro v1 w1 ho hb hg hn; clear hg hn; have N_ := Aside0.mk (below_step HBI.out hb); clear HBI; have HBI := N_; clear N_; have N_ := Aside0.mk (Kd.R_below L0.out hb); clear L0; have L0 := N_; clear N_; obtain ⟨A1, c1, rfl⟩ := Kd.R_slice ho; have L1 := Aside0.mk (Kd.R_lower ho (Nat.zero_le _)); have H1 := Aside0.mk (Kd.R_reads' ho).2.1; clear ho hb)
            | ((with_reducible refine gate_callee (f := 14) rfl ?_); refine goesL_ (some 59) rfl rfl Try.func14 (by kernel_rfl) rfl #[.slice A0 ([1] : List Int).length c0, .slice A1 ([0] : List Int).length c1] rfl (by (try simp only [List.map_toArray, List.map_cons, List.map_nil]); first | done | rfl) ?_; (with_reducible refine (ternary_Covers.calls k _ _ ([1] : List Int) _ _ ([0] : List Int) false 0 _ ?s0 ?s1 ?s2 ?s3 V3_.out).mono ?_); (case s0 => exact (Kd.R_reads' L0.out).2.2); (case s1 => exact H0.out); (case s2 => exact (Kd.R_reads' L1.out).2.2); (case s3 => exact H1.out); rintro e w5 ⟨rfl, hb⟩; refine ⟨_, rfl, ?_⟩; have N_ := Aside0.mk (below_step HBI.out hb); clear HBI; have HBI := N_; clear N_; clear hb L0 L1 H0 H1))
        have HBD := Aside0.mk (below_step HBI.out (below_drew (Below.refl _ _)))
        have x1 := (blk_cell (blk_below B1.out HBD.out) 3).trans (show _ = some (.int .u8 0) from rfl)
        have x2 := (blk_cell (blk_below B2.out HBD.out) 1).trans (show _ = some (.int .u8 0) from rfl)
        refine wp_region_last_drew (S := fun w' => w'.cell? ⟨w.heap.size, 3, none⟩ = some (.int .u8 0) ∧ w'.cell? ⟨w.heap.size + 1, 1, none⟩ = some (.int .u8 0)) (ds := []) (by kernel_rfl) ⟨x1, x2⟩ (fun hH => ?_)
        iterate 5 (refine tk_ [0,1,3,4,5,2,6,7,8,9,10,11,12,13,14,15,16,17,18,19,20,21,22,23,24,25,26,27,28,29,30,31,32] (v := ?_) (by simp; rfl) (by kernel_rfl) (by exact fun _ _ _ h => h) (Or.inl ⟨by rfl, ?_⟩) hH ?_; rotate_left; (intro _ hS; (try dsimp only at hS); go_simp; (try with_reducible rfl)); simp only [Act.put, List.setIfInBounds_toArray, List.set_cons_zero, List.set_cons_succ])
        refine os_ 2 (by simp; rfl) (by kernel_rfl) (fun K hK => ?_)
        refine goes_ Try.func17 (by kernel_rfl) rfl #[.int .u8 1, .int .u8 0] (by rfl) rfl rfl (by (try simp only [List.map_toArray, List.map_cons, List.map_nil]); first | done | rfl) ?_
        refine (spiritlevellaw05_both.calls k 1 0 0 _ B3_.out).mono ?_
        rintro e w5 ⟨rfl, hb⟩
        refine ⟨_, rfl, ?_⟩
        have HBE := Aside0.mk (below_step HBD.out hb)
        refine hK.out _ _ ⟨pw_cell_below hb x1, pw_cell_below hb x2⟩ (fun hH => ?_)
        clear hK K hb x1 x2 HBD
        iterate 27 (refine tk_ [0,1,3,4,5,2,6,7,8,9,10,11,12,13,14,15,16,17,18,19,20,21,22,23,24,25,26,27,28,29,30,31,32] (v := ?_) (by simp; rfl) (by kernel_rfl) (by exact fun _ _ _ h => h) (Or.inl ⟨by rfl, ?_⟩) hH ?_; rotate_left; (intro _ hS; (try dsimp only at hS); go_simp; (try with_reducible rfl)); simp only [Act.put, List.setIfInBounds_toArray, List.set_cons_zero, List.set_cons_succ])
        refine wpAnyLast_done (by kernel_rfl) ?_ _
        clear hH
        go_wp2
        go_roundg (gk - 1)
        case rel => exact ⟨4, rfl, ⟨by omega, by omega, by have := HI.out; omega⟩, HBE⟩
        case measure => have := HI.out; omega
      · go_upto_region 7 with fail
        go_upto_region 8 with ((with_reducible refine gate_callee (f := 12) rfl ?_); refine goesL_ (some 51) rfl rfl Try.func12 (by kernel_rfl) rfl #[.int .u8 1] rfl (by (try simp only [List.map_toArray, List.map_cons, List.map_nil]); first | done | rfl) ?_; (with_reducible refine (ternary_Not.calls 1 0 0 _ N1_.out).mono ?_); rintro e w5 ⟨rfl, hb⟩; refine ⟨_, rfl, ?_⟩; have N_ := Aside0.mk (below_step HBI.out hb); clear HBI; have HBI := N_; clear N_; clear hb)
        go_upto_region 9 with (first
            | ((with_reducible refine gate_dst (N := 56) rfl ?_); refine Kd.R_lit (Kd.int .u8) _ 5 ?hg (N := 56) ?hd (xs := ([1] : List Int)) (inner := [.int .u8 1]) (ok := fun _ => True) (okp := fun _ => True) ?hr ?hp (fun _ hk => hk) trivial (Below.refl _ _) (Nat.le_refl _) (by simp) ?_; (case hd => rfl); (case hg => rfl); (case hr => first | (go_simp; done) | (go_simp; rfl)); (case hp => exact (Reps.one (show Kd.M (Kd.int .u8) _ _ _ 1 [.int .u8 1] from rfl) (Reps.none _ _))); intro v1 w1 ho hb hg hn; clear hg hn; have N_ := Aside0.mk (below_step HBI.out hb); clear HBI; have HBI := N_; clear N_; obtain ⟨A0, c0, rfl⟩ := Kd.R_slice ho; have L0 := Aside0.mk (Kd.R_lower ho (Nat.zero_le _)); have H0 := Aside0.mk (Kd.R_reads' ho).2.1; clear ho hb)
            | ((with_reducible refine gate_dst (N := 58) rfl ?_); refine Kd.R_lit (Kd.int .u8) _ 5 ?hg (N := 58) ?hd (xs := ([1] : List Int)) (inner := [.int .u8 1]) (ok := fun _ => True) (okp := fun _ => True) ?hr ?hp (fun _ hk => hk) trivial (Below.refl _ _) (Nat.le_refl _) (by simp) ?_; (case hd => rfl); (case hg => rfl); (case hr => first | (go_simp; done) | (go_simp; rfl)); (case hp => exact (Reps.one (show Kd.M (Kd.int .u8) _ _ _ 1 [.int .u8 1] from rfl) (Reps.none _ _))); intro v1 w1 ho hb hg hn; clear hg hn; have N_ := Aside0.mk (below_step HBI.out hb); clear HBI; have HBI := N_; clear N_; have N_ := Aside0.mk (Kd.R_below L0.out hb); clear L0; have L0 := N_; clear N_; obtain ⟨A1, c1, rfl⟩ := Kd.R_slice ho; have L1 := Aside0.mk (Kd.R_lower ho (Nat.zero_le _)); have H1 := Aside0.mk (Kd.R_reads' ho).2.1; clear ho hb)
            | ((with_reducible refine gate_callee (f := 14) rfl ?_); refine goesL_ (some 59) rfl rfl Try.func14 (by kernel_rfl) rfl #[.slice A0 ([1] : List Int).length c0, .slice A1 ([1] : List Int).length c1] rfl (by (try simp only [List.map_toArray, List.map_cons, List.map_nil]); first | done | rfl) ?_; (with_reducible refine (ternary_Covers.calls k _ _ ([1] : List Int) _ _ ([1] : List Int) true 0 _ ?s0 ?s1 ?s2 ?s3 V4_.out).mono ?_); (case s0 => exact (Kd.R_reads' L0.out).2.2); (case s1 => exact H0.out); (case s2 => exact (Kd.R_reads' L1.out).2.2); (case s3 => exact H1.out); rintro e w5 ⟨rfl, hb⟩; refine ⟨_, rfl, ?_⟩; have N_ := Aside0.mk (below_step HBI.out hb); clear HBI; have HBI := N_; clear N_; clear hb L0 L1 H0 H1))
        have HBD := Aside0.mk (below_step HBI.out (below_drew (Below.refl _ _)))
        have x1 := (blk_cell (blk_below B1.out HBD.out) 4).trans (show _ = some (.int .u8 1) from rfl)
        have x2 := (blk_cell (blk_below B2.out HBD.out) 1).trans (show _ = some (.int .u8 0) from rfl)
        refine wp_region_last_drew (S := fun w' => w'.cell? ⟨w.heap.size, 4, none⟩ = some (.int .u8 1) ∧ w'.cell? ⟨w.heap.size + 1, 1, none⟩ = some (.int .u8 0)) (ds := []) (by kernel_rfl) ⟨x1, x2⟩ (fun hH => ?_)
        iterate 5 (refine tk_ [0,1,3,4,5,2,6,7,8,9,10,11,12,13,14,15,16,17,18,19,20,21,22,23,24,25,26,27,28,29,30,31,32] (v := ?_) (by simp; rfl) (by kernel_rfl) (by exact fun _ _ _ h => h) (Or.inl ⟨by rfl, ?_⟩) hH ?_; rotate_left; (intro _ hS; (try dsimp only at hS); go_simp; (try with_reducible rfl)); simp only [Act.put, List.setIfInBounds_toArray, List.set_cons_zero, List.set_cons_succ])
        refine os_ 2 (by simp; rfl) (by kernel_rfl) (fun K hK => ?_)
        refine goes_ Try.func17 (by kernel_rfl) rfl #[.int .u8 1, .int .u8 1] (by rfl) rfl rfl (by (try simp only [List.map_toArray, List.map_cons, List.map_nil]); first | done | rfl) ?_
        refine (spiritlevellaw05_both.calls k 1 1 1 _ B4_.out).mono ?_
        rintro e w5 ⟨rfl, hb⟩
        refine ⟨_, rfl, ?_⟩
        have HBE := Aside0.mk (below_step HBD.out hb)
        refine hK.out _ _ ⟨pw_cell_below hb x1, pw_cell_below hb x2⟩ (fun hH => ?_)
        clear hK K hb x1 x2 HBD
        iterate 27 (refine tk_ [0,1,3,4,5,2,6,7,8,9,10,11,12,13,14,15,16,17,18,19,20,21,22,23,24,25,26,27,28,29,30,31,32] (v := ?_) (by simp; rfl) (by kernel_rfl) (by exact fun _ _ _ h => h) (Or.inl ⟨by rfl, ?_⟩) hH ?_; rotate_left; (intro _ hS; (try dsimp only at hS); go_simp; (try with_reducible rfl)); simp only [Act.put, List.setIfInBounds_toArray, List.set_cons_zero, List.set_cons_succ])
        refine wpAnyLast_done (by kernel_rfl) ?_ _
        clear hH
        go_wp2
        go_roundg (gk - 1)
        case rel => exact ⟨5, rfl, ⟨by omega, by omega, by have := HI.out; omega⟩, HBE⟩
        case measure => have := HI.out; omega
      · go_upto_region 7 with fail
        go_upto_region 8 with ((with_reducible refine gate_callee (f := 12) rfl ?_); refine goesL_ (some 51) rfl rfl Try.func12 (by kernel_rfl) rfl #[.int .u8 1] rfl (by (try simp only [List.map_toArray, List.map_cons, List.map_nil]); first | done | rfl) ?_; (with_reducible refine (ternary_Not.calls 1 0 0 _ N1_.out).mono ?_); rintro e w5 ⟨rfl, hb⟩; refine ⟨_, rfl, ?_⟩; have N_ := Aside0.mk (below_step HBI.out hb); clear HBI; have HBI := N_; clear N_; clear hb)
        go_upto_region 9 with (first
            | ((with_reducible refine gate_dst (N := 56) rfl ?_); refine Kd.R_lit (Kd.int .u8) _ 5 ?hg (N := 56) ?hd (xs := ([1] : List Int)) (inner := [.int .u8 1]) (ok := fun _ => True) (okp := fun _ => True) ?hr ?hp (fun _ hk => hk) trivial (Below.refl _ _) (Nat.le_refl _) (by simp) ?_; (case hd => rfl); (case hg => rfl); (case hr => first | (go_simp; done) | (go_simp; rfl)); (case hp => exact (Reps.one (show Kd.M (Kd.int .u8) _ _ _ 1 [.int .u8 1] from rfl) (Reps.none _ _))); intro v1 w1 ho hb hg hn; clear hg hn; have N_ := Aside0.mk (below_step HBI.out hb); clear HBI; have HBI := N_; clear N_; obtain ⟨A0, c0, rfl⟩ := Kd.R_slice ho; have L0 := Aside0.mk (Kd.R_lower ho (Nat.zero_le _)); have H0 := Aside0.mk (Kd.R_reads' ho).2.1; clear ho hb)
            | ((with_reducible refine gate_dst (N := 58) rfl ?_); refine Kd.R_lit (Kd.int .u8) _ 5 ?hg (N := 58) ?hd (xs := ([2] : List Int)) (inner := [.int .u8 2]) (ok := fun _ => True) (okp := fun _ => True) ?hr ?hp (fun _ hk => hk) trivial (Below.refl _ _) (Nat.le_refl _) (by simp) ?_; (case hd => rfl); (case hg => rfl); (case hr => first | (go_simp; done) | (go_simp; rfl)); (case hp => exact (Reps.one (show Kd.M (Kd.int .u8) _ _ _ 2 [.int .u8 2] from rfl) (Reps.none _ _))); intro v1 w1 ho hb hg hn; clear hg hn; have N_ := Aside0.mk (below_step HBI.out hb); clear HBI; have HBI := N_; clear N_; have N_ := Aside0.mk (Kd.R_below L0.out hb); clear L0; have L0 := N_; clear N_; obtain ⟨A1, c1, rfl⟩ := Kd.R_slice ho; have L1 := Aside0.mk (Kd.R_lower ho (Nat.zero_le _)); have H1 := Aside0.mk (Kd.R_reads' ho).2.1; clear ho hb)
            | ((with_reducible refine gate_callee (f := 14) rfl ?_); refine goesL_ (some 59) rfl rfl Try.func14 (by kernel_rfl) rfl #[.slice A0 ([1] : List Int).length c0, .slice A1 ([2] : List Int).length c1] rfl (by (try simp only [List.map_toArray, List.map_cons, List.map_nil]); first | done | rfl) ?_; (with_reducible refine (ternary_Covers.calls k _ _ ([1] : List Int) _ _ ([2] : List Int) false 0 _ ?s0 ?s1 ?s2 ?s3 V5_.out).mono ?_); (case s0 => exact (Kd.R_reads' L0.out).2.2); (case s1 => exact H0.out); (case s2 => exact (Kd.R_reads' L1.out).2.2); (case s3 => exact H1.out); rintro e w5 ⟨rfl, hb⟩; refine ⟨_, rfl, ?_⟩; have N_ := Aside0.mk (below_step HBI.out hb); clear HBI; have HBI := N_; clear N_; clear hb L0 L1 H0 H1))
        have HBD := Aside0.mk (below_step HBI.out (below_drew (Below.refl _ _)))
        have x1 := (blk_cell (blk_below B1.out HBD.out) 5).trans (show _ = some (.int .u8 2) from rfl)
        have x2 := (blk_cell (blk_below B2.out HBD.out) 1).trans (show _ = some (.int .u8 0) from rfl)
        refine wp_region_last_drew (S := fun w' => w'.cell? ⟨w.heap.size, 5, none⟩ = some (.int .u8 2) ∧ w'.cell? ⟨w.heap.size + 1, 1, none⟩ = some (.int .u8 0)) (ds := []) (by kernel_rfl) ⟨x1, x2⟩ (fun hH => ?_)
        iterate 5 (refine tk_ [0,1,3,4,5,2,6,7,8,9,10,11,12,13,14,15,16,17,18,19,20,21,22,23,24,25,26,27,28,29,30,31,32] (v := ?_) (by simp; rfl) (by kernel_rfl) (by exact fun _ _ _ h => h) (Or.inl ⟨by rfl, ?_⟩) hH ?_; rotate_left; (intro _ hS; (try dsimp only at hS); go_simp; (try with_reducible rfl)); simp only [Act.put, List.setIfInBounds_toArray, List.set_cons_zero, List.set_cons_succ])
        refine os_ 2 (by simp; rfl) (by kernel_rfl) (fun K hK => ?_)
        refine goes_ Try.func17 (by kernel_rfl) rfl #[.int .u8 1, .int .u8 2] (by rfl) rfl rfl (by (try simp only [List.map_toArray, List.map_cons, List.map_nil]); first | done | rfl) ?_
        refine (spiritlevellaw05_both.calls k 1 2 2 _ B5_.out).mono ?_
        rintro e w5 ⟨rfl, hb⟩
        refine ⟨_, rfl, ?_⟩
        have HBE := Aside0.mk (below_step HBD.out hb)
        refine hK.out _ _ ⟨pw_cell_below hb x1, pw_cell_below hb x2⟩ (fun hH => ?_)
        clear hK K hb x1 x2 HBD
        iterate 27 (refine tk_ [0,1,3,4,5,2,6,7,8,9,10,11,12,13,14,15,16,17,18,19,20,21,22,23,24,25,26,27,28,29,30,31,32] (v := ?_) (by simp; rfl) (by kernel_rfl) (by exact fun _ _ _ h => h) (Or.inl ⟨by rfl, ?_⟩) hH ?_; rotate_left; (intro _ hS; (try dsimp only at hS); go_simp; (try with_reducible rfl)); simp only [Act.put, List.setIfInBounds_toArray, List.set_cons_zero, List.set_cons_succ])
        refine wpAnyLast_done (by kernel_rfl) ?_ _
        clear hH
        go_wp2
        go_roundg (gk - 1)
        case rel => exact ⟨6, rfl, ⟨by omega, by omega, by have := HI.out; omega⟩, HBE⟩
        case measure => have := HI.out; omega
      · go_upto_region 7 with fail
        go_upto_region 8 with ((with_reducible refine gate_callee (f := 12) rfl ?_); refine goesL_ (some 51) rfl rfl Try.func12 (by kernel_rfl) rfl #[.int .u8 2] rfl (by (try simp only [List.map_toArray, List.map_cons, List.map_nil]); first | done | rfl) ?_; (with_reducible refine (ternary_Not.calls 2 2 0 _ N2_.out).mono ?_); rintro e w5 ⟨rfl, hb⟩; refine ⟨_, rfl, ?_⟩; have N_ := Aside0.mk (below_step HBI.out hb); clear HBI; have HBI := N_; clear N_; clear hb)
        go_upto_region 9 with (first
            | ((with_reducible refine gate_dst (N := 56) rfl ?_); refine Kd.R_lit (Kd.int .u8) _ 5 ?hg (N := 56) ?hd (xs := ([2] : List Int)) (inner := [.int .u8 2]) (ok := fun _ => True) (okp := fun _ => True) ?hr ?hp (fun _ hk => hk) trivial (Below.refl _ _) (Nat.le_refl _) (by simp) ?_; (case hd => rfl); (case hg => rfl); (case hr => first | (go_simp; done) | (go_simp; rfl)); (case hp => exact (Reps.one (show Kd.M (Kd.int .u8) _ _ _ 2 [.int .u8 2] from rfl) (Reps.none _ _))); intro v1 w1 ho hb hg hn; clear hg hn; have N_ := Aside0.mk (below_step HBI.out hb); clear HBI; have HBI := N_; clear N_; obtain ⟨A0, c0, rfl⟩ := Kd.R_slice ho; have L0 := Aside0.mk (Kd.R_lower ho (Nat.zero_le _)); have H0 := Aside0.mk (Kd.R_reads' ho).2.1; clear ho hb)
            | ((with_reducible refine gate_dst (N := 58) rfl ?_); refine Kd.R_lit (Kd.int .u8) _ 5 ?hg (N := 58) ?hd (xs := ([0] : List Int)) (inner := [.int .u8 0]) (ok := fun _ => True) (okp := fun _ => True) ?hr ?hp (fun _ hk => hk) trivial (Below.refl _ _) (Nat.le_refl _) (by simp) ?_; (case hd => rfl); (case hg => rfl); (case hr => first | (go_simp; done) | (go_simp; rfl)); (case hp => exact (Reps.one (show Kd.M (Kd.int .u8) _ _ _ 0 [.int .u8 0] from rfl) (Reps.none _ _))); intro v1 w1 ho hb hg hn; clear hg hn; have N_ := Aside0.mk (below_step HBI.out hb); clear HBI; have HBI := N_; clear N_; have N_ := Aside0.mk (Kd.R_below L0.out hb); clear L0; have L0 := N_; clear N_; obtain ⟨A1, c1, rfl⟩ := Kd.R_slice ho; have L1 := Aside0.mk (Kd.R_lower ho (Nat.zero_le _)); have H1 := Aside0.mk (Kd.R_reads' ho).2.1; clear ho hb)
            | ((with_reducible refine gate_callee (f := 14) rfl ?_); refine goesL_ (some 59) rfl rfl Try.func14 (by kernel_rfl) rfl #[.slice A0 ([2] : List Int).length c0, .slice A1 ([0] : List Int).length c1] rfl (by (try simp only [List.map_toArray, List.map_cons, List.map_nil]); first | done | rfl) ?_; (with_reducible refine (ternary_Covers.calls k _ _ ([2] : List Int) _ _ ([0] : List Int) true 0 _ ?s0 ?s1 ?s2 ?s3 V6_.out).mono ?_); (case s0 => exact (Kd.R_reads' L0.out).2.2); (case s1 => exact H0.out); (case s2 => exact (Kd.R_reads' L1.out).2.2); (case s3 => exact H1.out); rintro e w5 ⟨rfl, hb⟩; refine ⟨_, rfl, ?_⟩; have N_ := Aside0.mk (below_step HBI.out hb); clear HBI; have HBI := N_; clear N_; clear hb L0 L1 H0 H1))
        have HBD := Aside0.mk (below_step HBI.out (below_drew (Below.refl _ _)))
        have x1 := (blk_cell (blk_below B1.out HBD.out) 6).trans (show _ = some (.int .u8 0) from rfl)
        have x2 := (blk_cell (blk_below B2.out HBD.out) 2).trans (show _ = some (.int .u8 2) from rfl)
        refine wp_region_last_drew (S := fun w' => w'.cell? ⟨w.heap.size, 6, none⟩ = some (.int .u8 0) ∧ w'.cell? ⟨w.heap.size + 1, 2, none⟩ = some (.int .u8 2)) (ds := []) (by kernel_rfl) ⟨x1, x2⟩ (fun hH => ?_)
        iterate 5 (refine tk_ [0,1,3,4,5,2,6,7,8,9,10,11,12,13,14,15,16,17,18,19,20,21,22,23,24,25,26,27,28,29,30,31,32] (v := ?_) (by simp; rfl) (by kernel_rfl) (by exact fun _ _ _ h => h) (Or.inl ⟨by rfl, ?_⟩) hH ?_; rotate_left; (intro _ hS; (try dsimp only at hS); go_simp; (try with_reducible rfl)); simp only [Act.put, List.setIfInBounds_toArray, List.set_cons_zero, List.set_cons_succ])
        refine os_ 2 (by simp; rfl) (by kernel_rfl) (fun K hK => ?_)
        refine goes_ Try.func17 (by kernel_rfl) rfl #[.int .u8 2, .int .u8 0] (by rfl) rfl rfl (by (try simp only [List.map_toArray, List.map_cons, List.map_nil]); first | done | rfl) ?_
        refine (spiritlevellaw05_both.calls k 2 0 0 _ B6_.out).mono ?_
        rintro e w5 ⟨rfl, hb⟩
        refine ⟨_, rfl, ?_⟩
        have HBE := Aside0.mk (below_step HBD.out hb)
        refine hK.out _ _ ⟨pw_cell_below hb x1, pw_cell_below hb x2⟩ (fun hH => ?_)
        clear hK K hb x1 x2 HBD
        iterate 21 (refine tk_ [0,1,3,4,5,2,6,7,8,9,10,11,12,13,14,15,16,17,18,19,20,21,22,23,24,25,26,27,28,29,30,31,32] (v := ?_) (by simp; rfl) (by kernel_rfl) (by exact fun _ _ _ h => h) (Or.inl ⟨by rfl, ?_⟩) hH ?_; rotate_left; (intro _ hS; (try dsimp only at hS); go_simp; (try with_reducible rfl)); simp only [Act.put, List.setIfInBounds_toArray, List.set_cons_zero, List.set_cons_succ])
        iterate 3 (refine tk_ [0,1,3,4,5,2,6,7,8,9,10,11,12,13,14,15,16,17,18,19,20,21,22,23,24,25,26,27,28,29,30,31,32] (v := undef) (by simp; rfl) (by kernel_rfl) (by exact fun _ _ _ h => h) (Or.inr ⟨by rfl, rfl⟩) hH ?_; simp only [Act.put, List.setIfInBounds_toArray, List.set_cons_zero, List.set_cons_succ])
        iterate 3 (refine tk_ [0,1,3,4,5,2,6,7,8,9,10,11,12,13,14,15,16,17,18,19,20,21,22,23,24,25,26,27,28,29,30,31,32] (v := ?_) (by simp; rfl) (by kernel_rfl) (by exact fun _ _ _ h => h) (Or.inl ⟨by rfl, ?_⟩) hH ?_; rotate_left; (intro _ hS; (try dsimp only at hS); go_simp; (try with_reducible rfl)); simp only [Act.put, List.setIfInBounds_toArray, List.set_cons_zero, List.set_cons_succ])
        refine wpAnyLast_done (by kernel_rfl) ?_ _
        clear hH
        go_wp2
        go_roundg (gk - 1)
        case rel => exact ⟨7, rfl, ⟨by omega, by omega, by have := HI.out; omega⟩, HBE⟩
        case measure => have := HI.out; omega
      · go_upto_region 7 with fail
        go_upto_region 8 with ((with_reducible refine gate_callee (f := 12) rfl ?_); refine goesL_ (some 51) rfl rfl Try.func12 (by kernel_rfl) rfl #[.int .u8 2] rfl (by (try simp only [List.map_toArray, List.map_cons, List.map_nil]); first | done | rfl) ?_; (with_reducible refine (ternary_Not.calls 2 2 0 _ N2_.out).mono ?_); rintro e w5 ⟨rfl, hb⟩; refine ⟨_, rfl, ?_⟩; have N_ := Aside0.mk (below_step HBI.out hb); clear HBI; have HBI := N_; clear N_; clear hb)
        go_upto_region 9 with (first
            | ((with_reducible refine gate_dst (N := 56) rfl ?_); refine Kd.R_lit (Kd.int .u8) _ 5 ?hg (N := 56) ?hd (xs := ([2] : List Int)) (inner := [.int .u8 2]) (ok := fun _ => True) (okp := fun _ => True) ?hr ?hp (fun _ hk => hk) trivial (Below.refl _ _) (Nat.le_refl _) (by simp) ?_; (case hd => rfl); (case hg => rfl); (case hr => first | (go_simp; done) | (go_simp; rfl)); (case hp => exact (Reps.one (show Kd.M (Kd.int .u8) _ _ _ 2 [.int .u8 2] from rfl) (Reps.none _ _))); intro v1 w1 ho hb hg hn; clear hg hn; have N_ := Aside0.mk (below_step HBI.out hb); clear HBI; have HBI := N_; clear N_; obtain ⟨A0, c0, rfl⟩ := Kd.R_slice ho; have L0 := Aside0.mk (Kd.R_lower ho (Nat.zero_le _)); have H0 := Aside0.mk (Kd.R_reads' ho).2.1; clear ho hb)
            | ((with_reducible refine gate_dst (N := 58) rfl ?_); refine Kd.R_lit (Kd.int .u8) _ 5 ?hg (N := 58) ?hd (xs := ([1] : List Int)) (inner := [.int .u8 1]) (ok := fun _ => True) (okp := fun _ => True) ?hr ?hp (fun _ hk => hk) trivial (Below.refl _ _) (Nat.le_refl _) (by simp) ?_; (case hd => rfl); (case hg => rfl); (case hr => first | (go_simp; done) | (go_simp; rfl)); (case hp => exact (Reps.one (show Kd.M (Kd.int .u8) _ _ _ 1 [.int .u8 1] from rfl) (Reps.none _ _))); intro v1 w1 ho hb hg hn; clear hg hn; have N_ := Aside0.mk (below_step HBI.out hb); clear HBI; have HBI := N_; clear N_; have N_ := Aside0.mk (Kd.R_below L0.out hb); clear L0; have L0 := N_; clear N_; obtain ⟨A1, c1, rfl⟩ := Kd.R_slice ho; have L1 := Aside0.mk (Kd.R_lower ho (Nat.zero_le _)); have H1 := Aside0.mk (Kd.R_reads' ho).2.1; clear ho hb)
            | ((with_reducible refine gate_callee (f := 14) rfl ?_); refine goesL_ (some 59) rfl rfl Try.func14 (by kernel_rfl) rfl #[.slice A0 ([2] : List Int).length c0, .slice A1 ([1] : List Int).length c1] rfl (by (try simp only [List.map_toArray, List.map_cons, List.map_nil]); first | done | rfl) ?_; (with_reducible refine (ternary_Covers.calls k _ _ ([2] : List Int) _ _ ([1] : List Int) true 0 _ ?s0 ?s1 ?s2 ?s3 V7_.out).mono ?_); (case s0 => exact (Kd.R_reads' L0.out).2.2); (case s1 => exact H0.out); (case s2 => exact (Kd.R_reads' L1.out).2.2); (case s3 => exact H1.out); rintro e w5 ⟨rfl, hb⟩; refine ⟨_, rfl, ?_⟩; have N_ := Aside0.mk (below_step HBI.out hb); clear HBI; have HBI := N_; clear N_; clear hb L0 L1 H0 H1))
        have HBD := Aside0.mk (below_step HBI.out (below_drew (Below.refl _ _)))
        have x1 := (blk_cell (blk_below B1.out HBD.out) 7).trans (show _ = some (.int .u8 2) from rfl)
        have x2 := (blk_cell (blk_below B2.out HBD.out) 2).trans (show _ = some (.int .u8 2) from rfl)
        refine wp_region_last_drew (S := fun w' => w'.cell? ⟨w.heap.size, 7, none⟩ = some (.int .u8 2) ∧ w'.cell? ⟨w.heap.size + 1, 2, none⟩ = some (.int .u8 2)) (ds := []) (by kernel_rfl) ⟨x1, x2⟩ (fun hH => ?_)
        iterate 5 (refine tk_ [0,1,3,4,5,2,6,7,8,9,10,11,12,13,14,15,16,17,18,19,20,21,22,23,24,25,26,27,28,29,30,31,32] (v := ?_) (by simp; rfl) (by kernel_rfl) (by exact fun _ _ _ h => h) (Or.inl ⟨by rfl, ?_⟩) hH ?_; rotate_left; (intro _ hS; (try dsimp only at hS); go_simp; (try with_reducible rfl)); simp only [Act.put, List.setIfInBounds_toArray, List.set_cons_zero, List.set_cons_succ])
        refine os_ 2 (by simp; rfl) (by kernel_rfl) (fun K hK => ?_)
        refine goes_ Try.func17 (by kernel_rfl) rfl #[.int .u8 2, .int .u8 1] (by rfl) rfl rfl (by (try simp only [List.map_toArray, List.map_cons, List.map_nil]); first | done | rfl) ?_
        refine (spiritlevellaw05_both.calls k 2 1 2 _ B7_.out).mono ?_
        rintro e w5 ⟨rfl, hb⟩
        refine ⟨_, rfl, ?_⟩
        have HBE := Aside0.mk (below_step HBD.out hb)
        refine hK.out _ _ ⟨pw_cell_below hb x1, pw_cell_below hb x2⟩ (fun hH => ?_)
        clear hK K hb x1 x2 HBD
        iterate 21 (refine tk_ [0,1,3,4,5,2,6,7,8,9,10,11,12,13,14,15,16,17,18,19,20,21,22,23,24,25,26,27,28,29,30,31,32] (v := ?_) (by simp; rfl) (by kernel_rfl) (by exact fun _ _ _ h => h) (Or.inl ⟨by rfl, ?_⟩) hH ?_; rotate_left; (intro _ hS; (try dsimp only at hS); go_simp; (try with_reducible rfl)); simp only [Act.put, List.setIfInBounds_toArray, List.set_cons_zero, List.set_cons_succ])
        iterate 3 (refine tk_ [0,1,3,4,5,2,6,7,8,9,10,11,12,13,14,15,16,17,18,19,20,21,22,23,24,25,26,27,28,29,30,31,32] (v := undef) (by simp; rfl) (by kernel_rfl) (by exact fun _ _ _ h => h) (Or.inr ⟨by rfl, rfl⟩) hH ?_; simp only [Act.put, List.setIfInBounds_toArray, List.set_cons_zero, List.set_cons_succ])
        iterate 3 (refine tk_ [0,1,3,4,5,2,6,7,8,9,10,11,12,13,14,15,16,17,18,19,20,21,22,23,24,25,26,27,28,29,30,31,32] (v := ?_) (by simp; rfl) (by kernel_rfl) (by exact fun _ _ _ h => h) (Or.inl ⟨by rfl, ?_⟩) hH ?_; rotate_left; (intro _ hS; (try dsimp only at hS); go_simp; (try with_reducible rfl)); simp only [Act.put, List.setIfInBounds_toArray, List.set_cons_zero, List.set_cons_succ])
        refine wpAnyLast_done (by kernel_rfl) ?_ _
        clear hH
        go_wp2
        go_roundg (gk - 1)
        case rel => exact ⟨8, rfl, ⟨by omega, by omega, by have := HI.out; omega⟩, HBE⟩
        case measure => have := HI.out; omega
      · go_upto_region 7 with fail
        go_upto_region 8 with ((with_reducible refine gate_callee (f := 12) rfl ?_); refine goesL_ (some 51) rfl rfl Try.func12 (by kernel_rfl) rfl #[.int .u8 2] rfl (by (try simp only [List.map_toArray, List.map_cons, List.map_nil]); first | done | rfl) ?_; (with_reducible refine (ternary_Not.calls 2 2 0 _ N2_.out).mono ?_); rintro e w5 ⟨rfl, hb⟩; refine ⟨_, rfl, ?_⟩; have N_ := Aside0.mk (below_step HBI.out hb); clear HBI; have HBI := N_; clear N_; clear hb)
        go_upto_region 9 with (first
            | ((with_reducible refine gate_dst (N := 56) rfl ?_); refine Kd.R_lit (Kd.int .u8) _ 5 ?hg (N := 56) ?hd (xs := ([2] : List Int)) (inner := [.int .u8 2]) (ok := fun _ => True) (okp := fun _ => True) ?hr ?hp (fun _ hk => hk) trivial (Below.refl _ _) (Nat.le_refl _) (by simp) ?_; (case hd => rfl); (case hg => rfl); (case hr => first | (go_simp; done) | (go_simp; rfl)); (case hp => exact (Reps.one (show Kd.M (Kd.int .u8) _ _ _ 2 [.int .u8 2] from rfl) (Reps.none _ _))); intro v1 w1 ho hb hg hn; clear hg hn; have N_ := Aside0.mk (below_step HBI.out hb); clear HBI; have HBI := N_; clear N_; obtain ⟨A0, c0, rfl⟩ := Kd.R_slice ho; have L0 := Aside0.mk (Kd.R_lower ho (Nat.zero_le _)); have H0 := Aside0.mk (Kd.R_reads' ho).2.1; clear ho hb)
            | ((with_reducible refine gate_dst (N := 58) rfl ?_); refine Kd.R_lit (Kd.int .u8) _ 5 ?hg (N := 58) ?hd (xs := ([2] : List Int)) (inner := [.int .u8 2]) (ok := fun _ => True) (okp := fun _ => True) ?hr ?hp (fun _ hk => hk) trivial (Below.refl _ _) (Nat.le_refl _) (by simp) ?_; (case hd => rfl); (case hg => rfl); (case hr => first | (go_simp; done) | (go_simp; rfl)); (case hp => exact (Reps.one (show Kd.M (Kd.int .u8) _ _ _ 2 [.int .u8 2] from rfl) (Reps.none _ _))); intro v1 w1 ho hb hg hn; clear hg hn; have N_ := Aside0.mk (below_step HBI.out hb); clear HBI; have HBI := N_; clear N_; have N_ := Aside0.mk (Kd.R_below L0.out hb); clear L0; have L0 := N_; clear N_; obtain ⟨A1, c1, rfl⟩ := Kd.R_slice ho; have L1 := Aside0.mk (Kd.R_lower ho (Nat.zero_le _)); have H1 := Aside0.mk (Kd.R_reads' ho).2.1; clear ho hb)
            | ((with_reducible refine gate_callee (f := 14) rfl ?_); refine goesL_ (some 59) rfl rfl Try.func14 (by kernel_rfl) rfl #[.slice A0 ([2] : List Int).length c0, .slice A1 ([2] : List Int).length c1] rfl (by (try simp only [List.map_toArray, List.map_cons, List.map_nil]); first | done | rfl) ?_; (with_reducible refine (ternary_Covers.calls k _ _ ([2] : List Int) _ _ ([2] : List Int) true 0 _ ?s0 ?s1 ?s2 ?s3 V8_.out).mono ?_); (case s0 => exact (Kd.R_reads' L0.out).2.2); (case s1 => exact H0.out); (case s2 => exact (Kd.R_reads' L1.out).2.2); (case s3 => exact H1.out); rintro e w5 ⟨rfl, hb⟩; refine ⟨_, rfl, ?_⟩; have N_ := Aside0.mk (below_step HBI.out hb); clear HBI; have HBI := N_; clear N_; clear hb L0 L1 H0 H1))
        have HBD := Aside0.mk (below_step HBI.out (below_drew (Below.refl _ _)))
        have x1 := (blk_cell (blk_below B1.out HBD.out) 8).trans (show _ = some (.int .u8 2) from rfl)
        have x2 := (blk_cell (blk_below B2.out HBD.out) 2).trans (show _ = some (.int .u8 2) from rfl)
        refine wp_region_last_drew (S := fun w' => w'.cell? ⟨w.heap.size, 8, none⟩ = some (.int .u8 2) ∧ w'.cell? ⟨w.heap.size + 1, 2, none⟩ = some (.int .u8 2)) (ds := []) (by kernel_rfl) ⟨x1, x2⟩ (fun hH => ?_)
        iterate 5 (refine tk_ [0,1,3,4,5,2,6,7,8,9,10,11,12,13,14,15,16,17,18,19,20,21,22,23,24,25,26,27,28,29,30,31,32] (v := ?_) (by simp; rfl) (by kernel_rfl) (by exact fun _ _ _ h => h) (Or.inl ⟨by rfl, ?_⟩) hH ?_; rotate_left; (intro _ hS; (try dsimp only at hS); go_simp; (try with_reducible rfl)); simp only [Act.put, List.setIfInBounds_toArray, List.set_cons_zero, List.set_cons_succ])
        refine os_ 2 (by simp; rfl) (by kernel_rfl) (fun K hK => ?_)
        refine goes_ Try.func17 (by kernel_rfl) rfl #[.int .u8 2, .int .u8 2] (by rfl) rfl rfl (by (try simp only [List.map_toArray, List.map_cons, List.map_nil]); first | done | rfl) ?_
        refine (spiritlevellaw05_both.calls k 2 2 2 _ B8_.out).mono ?_
        rintro e w5 ⟨rfl, hb⟩
        refine ⟨_, rfl, ?_⟩
        have HBE := Aside0.mk (below_step HBD.out hb)
        refine hK.out _ _ ⟨pw_cell_below hb x1, pw_cell_below hb x2⟩ (fun hH => ?_)
        clear hK K hb x1 x2 HBD
        iterate 21 (refine tk_ [0,1,3,4,5,2,6,7,8,9,10,11,12,13,14,15,16,17,18,19,20,21,22,23,24,25,26,27,28,29,30,31,32] (v := ?_) (by simp; rfl) (by kernel_rfl) (by exact fun _ _ _ h => h) (Or.inl ⟨by rfl, ?_⟩) hH ?_; rotate_left; (intro _ hS; (try dsimp only at hS); go_simp; (try with_reducible rfl)); simp only [Act.put, List.setIfInBounds_toArray, List.set_cons_zero, List.set_cons_succ])
        iterate 3 (refine tk_ [0,1,3,4,5,2,6,7,8,9,10,11,12,13,14,15,16,17,18,19,20,21,22,23,24,25,26,27,28,29,30,31,32] (v := undef) (by simp; rfl) (by kernel_rfl) (by exact fun _ _ _ h => h) (Or.inr ⟨by rfl, rfl⟩) hH ?_; simp only [Act.put, List.setIfInBounds_toArray, List.set_cons_zero, List.set_cons_succ])
        iterate 3 (refine tk_ [0,1,3,4,5,2,6,7,8,9,10,11,12,13,14,15,16,17,18,19,20,21,22,23,24,25,26,27,28,29,30,31,32] (v := ?_) (by simp; rfl) (by kernel_rfl) (by exact fun _ _ _ h => h) (Or.inl ⟨by rfl, ?_⟩) hH ?_; rotate_left; (intro _ hS; (try dsimp only at hS); go_simp; (try with_reducible rfl)); simp only [Act.put, List.setIfInBounds_toArray, List.set_cons_zero, List.set_cons_succ])
        refine wpAnyLast_done (by kernel_rfl) ?_ _
        clear hH
        go_wp2
        go_roundg (gk - 1)
        case rel => exact ⟨9, rfl, ⟨by omega, by omega, by have := HI.out; omega⟩, HBE⟩
        case measure => have := HI.out; omega
      · have HE := Aside0.mk (below_step HBW.out HBI.out)
        go_wp2_with fail
        go_meet
        exact HE
  case rest =>
  have HB := hcut
  clear hcut HBW B1 B2
  go_upto_region 12 with ((with_reducible refine gate_callee (f := 10) rfl ?_); refine goesL_ (some 96) rfl rfl Try.func10 (by kernel_rfl) rfl #[.int .u8 3, .int .u8 0] rfl (by (try simp only [List.map_toArray, List.map_cons, List.map_nil]); first | done | rfl) ?_; (with_reducible refine (ternary_And.calls k 3 0 0 8 _ D1_.out).mono ?_); rintro e w5 ⟨rfl, hb⟩; refine ⟨_, rfl, ?_⟩; have N_ := Aside0.mk (below_step HB.out hb); clear HB; have HB := N_; clear N_; clear hb)
  go_upto_region 13 with ((with_reducible refine gate_callee (f := 10) rfl ?_); refine goesL_ (some 100) rfl rfl Try.func10 (by kernel_rfl) rfl #[.int .u8 0, .int .u8 255] rfl (by (try simp only [List.map_toArray, List.map_cons, List.map_nil]); first | done | rfl) ?_; (with_reducible refine (ternary_And.calls k 0 255 0 8 _ D2_.out).mono ?_); rintro e w5 ⟨rfl, hb⟩; refine ⟨_, rfl, ?_⟩; have N_ := Aside0.mk (below_step HB.out hb); clear HB; have HB := N_; clear N_; clear hb)
  go_upto_region 14 with ((with_reducible refine gate_callee (f := 12) rfl ?_); refine goesL_ (some 104) rfl rfl Try.func12 (by kernel_rfl) rfl #[.int .u8 3] rfl (by (try simp only [List.map_toArray, List.map_cons, List.map_nil]); first | done | rfl) ?_; (with_reducible refine (ternary_Not.calls 3 0 8 _ D3_.out).mono ?_); rintro e w5 ⟨rfl, hb⟩; refine ⟨_, rfl, ?_⟩; have N_ := Aside0.mk (below_step HB.out hb); clear HB; have HB := N_; clear N_; clear hb)
  go_upto_region 15 with (first
    | ((with_reducible refine gate_dst (N := 108) rfl ?_); refine Kd.R_lit (Kd.int .u8) _ 5 ?hg (N := 108) ?hd (xs := ([3] : List Int)) (inner := [.int .u8 3]) (ok := fun _ => True) (okp := fun _ => True) ?hr ?hp (fun _ hk => hk) trivial (Below.refl _ _) (Nat.le_refl _) (by simp) ?_; (case hd => rfl); (case hg => rfl); (case hr => first | (go_simp; done) | (go_simp; rfl)); (case hp => exact (Reps.one (show Kd.M (Kd.int .u8) _ _ _ 3 [.int .u8 3] from rfl) (Reps.none _ _))); intro v1 w1 ho hb hg hn; clear hg hn; have N_ := Aside0.mk (below_step HB.out hb); clear HB; have HB := N_; clear N_; obtain ⟨A0, c0, rfl⟩ := Kd.R_slice ho; have L0 := Aside0.mk (Kd.R_lower ho (Nat.zero_le _)); have H0 := Aside0.mk (Kd.R_reads' ho).2.1; clear ho hb)
    | ((with_reducible refine gate_callee (f := 14) rfl ?_); refine goesL_ (some 109) rfl rfl Try.func14 (by kernel_rfl) rfl #[.slice A0 ([3] : List Int).length c0, .slice none ([] : List Int).length 0] rfl (by (try simp only [List.map_toArray, List.map_cons, List.map_nil]); first | done | rfl) ?_; (with_reducible refine (ternary_Covers.calls k _ _ [3] _ _ [] false 8 _ ?s0 ?s1 ?s2 ?s3 E1_.out).mono ?_); (case s0 => exact (Kd.R_reads' L0.out).2.2); (case s1 => exact H0.out); (case s2 => exact Kd.C_nil _ _); (case s3 => exact Nat.le_refl _); rintro e w5 ⟨rfl, hb⟩; refine ⟨_, rfl, ?_⟩; have N_ := Aside0.mk (below_step HB.out hb); clear HB; have HB := N_; clear N_; clear hb L0 H0))
  go_upto_region 16 with (first
    | ((with_reducible refine gate_dst (N := 113) rfl ?_); refine Kd.R_lit (Kd.int .u8) _ 5 ?hg (N := 113) ?hd (xs := ([3] : List Int)) (inner := [.int .u8 3]) (ok := fun _ => True) (okp := fun _ => True) ?hr ?hp (fun _ hk => hk) trivial (Below.refl _ _) (Nat.le_refl _) (by simp) ?_; (case hd => rfl); (case hg => rfl); (case hr => first | (go_simp; done) | (go_simp; rfl)); (case hp => exact (Reps.one (show Kd.M (Kd.int .u8) _ _ _ 3 [.int .u8 3] from rfl) (Reps.none _ _))); intro v1 w1 ho hb hg hn; clear hg hn; have N_ := Aside0.mk (below_step HB.out hb); clear HB; have HB := N_; clear N_; obtain ⟨A0, c0, rfl⟩ := Kd.R_slice ho; have L0 := Aside0.mk (Kd.R_lower ho (Nat.zero_le _)); have H0 := Aside0.mk (Kd.R_reads' ho).2.1; clear ho hb)
    | ((with_reducible refine gate_callee (f := 14) rfl ?_); refine goesL_ (some 114) rfl rfl Try.func14 (by kernel_rfl) rfl #[.slice none ([] : List Int).length 0, .slice A0 ([3] : List Int).length c0] rfl (by (try simp only [List.map_toArray, List.map_cons, List.map_nil]); first | done | rfl) ?_; (with_reducible refine (ternary_Covers.calls k _ _ [] _ _ [3] false 8 _ ?s0 ?s1 ?s2 ?s3 E2_.out).mono ?_); (case s0 => exact Kd.C_nil _ _); (case s1 => exact Nat.le_refl _); (case s2 => exact (Kd.R_reads' L0.out).2.2); (case s3 => exact H0.out); rintro e w5 ⟨rfl, hb⟩; refine ⟨_, rfl, ?_⟩; have N_ := Aside0.mk (below_step HB.out hb); clear HB; have HB := N_; clear N_; clear hb L0 H0))
  go_upto_region 17 with (first
    | ((with_reducible refine gate_dst (N := 118) rfl ?_); refine Kd.R_lit (Kd.int .u8) _ 5 ?hg (N := 118) ?hd (xs := ([0] : List Int)) (inner := [.int .u8 0]) (ok := fun _ => True) (okp := fun _ => True) ?hr ?hp (fun _ hk => hk) trivial (Below.refl _ _) (Nat.le_refl _) (by simp) ?_; (case hd => rfl); (case hg => rfl); (case hr => first | (go_simp; done) | (go_simp; rfl)); (case hp => exact (Reps.one (show Kd.M (Kd.int .u8) _ _ _ 0 [.int .u8 0] from rfl) (Reps.none _ _))); intro v1 w1 ho hb hg hn; clear hg hn; have N_ := Aside0.mk (below_step HB.out hb); clear HB; have HB := N_; clear N_; obtain ⟨A0, c0, rfl⟩ := Kd.R_slice ho; have L0 := Aside0.mk (Kd.R_lower ho (Nat.zero_le _)); have H0 := Aside0.mk (Kd.R_reads' ho).2.1; clear ho hb)
    | ((with_reducible refine gate_callee (f := 14) rfl ?_); refine goesL_ (some 119) rfl rfl Try.func14 (by kernel_rfl) rfl #[.slice A0 ([0] : List Int).length c0, .slice none ([] : List Int).length 0] rfl (by (try simp only [List.map_toArray, List.map_cons, List.map_nil]); first | done | rfl) ?_; (with_reducible refine (ternary_Covers.calls k _ _ [0] _ _ [] false 2 _ ?s0 ?s1 ?s2 ?s3 E3_.out).mono ?_); (case s0 => exact (Kd.R_reads' L0.out).2.2); (case s1 => exact H0.out); (case s2 => exact Kd.C_nil _ _); (case s3 => exact Nat.le_refl _); rintro e w5 ⟨rfl, hb⟩; refine ⟨_, rfl, ?_⟩; have N_ := Aside0.mk (below_step HB.out hb); clear HB; have HB := N_; clear N_; clear hb L0 H0))
  obtain ⟨one, EO⟩ : ∃ y : List S61, Aside0 (y = [⟨5, 1⟩]) := ⟨_, ⟨rfl⟩⟩
  have G1 := G1_.out
  have G2 := G2_.out
  have G3 := G3_.out
  have G6 := G6_.out
  have G7 := G7_.out
  rw [← EO.out] at G1 G2 G3 G6 G7
  clear G1_ G2_ G3_ G6_ G7_
  have G1_ := Aside0.mk G1
  have G2_ := Aside0.mk G2
  have G3_ := Aside0.mk G3
  have G6_ := Aside0.mk G6
  have G7_ := Aside0.mk G7
  clear G1 G2 G3 G6 G7
  go_upto_region 18 with ((with_reducible refine gate_dst (N := 123) rfl ?_); refine Kd.R_lit k61 _ 61 ?hg (N := 123) ?hd (xs := ([⟨5, 1⟩] : List S61)) (inner := [.int .i64 5, .int .i64 1]) (ok := fun _ => True) (okp := fun _ => True) ?hr ?hp (fun _ hk => hk) trivial (Below.refl _ _) (Nat.le_refl _) (by simp) ?_; (case hd => rfl); (case hg => rfl); (case hr => first | (go_simp; done) | (go_simp; rfl)); (case hp => exact (Reps.c2 (show Kd.M k61 _ _ _ (⟨5, 1⟩ : S61) [.int .i64 5, .int .i64 1] from (k61_mkM _ _ _ (⟨5, 1⟩ : S61))) (Reps.none _ _))); intro v1 wl ho hb hg hn; clear hg hn; rw [← EO.out] at ho; have N_ := Aside0.mk (below_step HB.out hb); clear HB; have HB := N_; clear N_; obtain ⟨AO, cO, rfl⟩ := Kd.R_slice ho; have LO := Aside0.mk (Kd.R_lower ho (Nat.zero_le _)); have HO := Aside0.mk (Kd.R_reads' ho).2.1; clear ho hb)
  obtain ⟨wc, hwc⟩ : ∃ x, x = wl.alloc (.cells #[.int .i64 1, .slice AO one.length cO, .slice none 0 0, .slice none 0 0, .slice none 0 0] 45) := ⟨_, rfl⟩
  have BC : Aside0 (wc.heap[wl.heap.size]? = some (.cells #[.int .i64 1, .slice AO one.length cO, .slice none 0 0, .slice none 0 0, .slice none 0 0] 45 (0, 0))) := ⟨by rw [hwc]; exact heap_alloc_new wl _⟩
  have hb : Below wl.heap.size wl wc := by rw [hwc]; exact below_alloc (Below.refl _ _) _
  have N_ := Aside0.mk (below_step HB.out hb); clear HB; have HB := N_; clear N_; have N_ := Aside0.mk (Kd.R_below LO.out hb); clear LO; have LO := N_; clear N_
  clear hb
  rw [← hwc]
  clear hwc
  have hu45 := Try.underlying45
  have y0 := (blk_cell BC.out 0).trans (show _ = some (.int .i64 1) from rfl)
  have y1 := (blk_cell BC.out 1).trans (show _ = some (.slice AO one.length cO) from rfl)
  have y2 := (blk_cell BC.out 2).trans (show _ = some (.slice none 0 0) from rfl)
  have y3 := (blk_cell BC.out 3).trans (show _ = some (.slice none 0 0) from rfl)
  have y4 := (blk_cell BC.out 4).trans (show _ = some (.slice none 0 0) from rfl)
  go_upto_region 19 with (first
    | ((with_reducible refine gate_dst (N := 127) rfl ?_); refine Kd.R_lit (Kd.int .u8) _ 5 ?hg (N := 127) ?hd (xs := ([3] : List Int)) (inner := [.int .u8 3]) (ok := fun _ => True) (okp := fun _ => True) ?hr ?hp (fun _ hk => hk) trivial (Below.refl _ _) (Nat.le_refl _) (by simp) ?_; (case hd => rfl); (case hg => rfl); (case hr => first | (go_simp; done) | (go_simp; rfl)); (case hp => exact (Reps.one (show Kd.M (Kd.int .u8) _ _ _ 3 [.int .u8 3] from rfl) (Reps.none _ _))); intro v1 w1 ho hb hg hn; clear hg hn; have N_ := Aside0.mk (below_step HB.out hb); clear HB; have HB := N_; clear N_; have N_ := Aside0.mk (blk_below BC.out hb); clear BC; have BC := N_; clear N_; have N_ := Aside0.mk (Kd.R_below LO.out hb); clear LO; have LO := N_; clear N_; obtain ⟨A0, c0, rfl⟩ := Kd.R_slice ho; have L0 := Aside0.mk (Kd.R_lower ho (Nat.zero_le _)); have H0 := Aside0.mk (Kd.R_reads' ho).2.1; clear ho hb)
    | ((with_reducible refine gate_callee (f := 22) rfl ?_); refine goesL_ (some 128) rfl rfl Try.func22 (by kernel_rfl) rfl #[.agg #[.int .i64 1, .slice AO one.length cO, .slice none ([] : List Int).length 0, .slice none ([] : List Int).length 0, .slice none ([] : List Int).length 0], .slice A0 ([3] : List Int).length c0, .slice none ([] : List Int).length 0] rfl (by (try simp only [List.map_toArray, List.map_cons, List.map_nil]); first | done | rfl) ?_; (refine (ternary_All.calls k 1 _ _ one _ _ [] _ _ [] _ _ [] (fun _ => True) _ _ ([3] : List Int) (fun _ => True) _ _ ([] : List Int) ([] : List Int) 2 _ ?s0 ?s1 ?s2 ?s3 ?s4 ?s5 ?s6 ?s7 ?s8 ?s9 G1_.out).mono ?_); (case s0 => exact (Kd.R_reads' LO.out).2.2); (case s1 => exact HO.out); (case s2 => exact Kd.C_nil _ _); (case s3 => exact Nat.le_refl _); (case s4 => exact Kd.C_nil _ _); (case s5 => exact Nat.le_refl _); (case s6 => exact Kd.C_nil _ _); (case s7 => exact Nat.le_refl _); (case s8 => exact Kd.R_V L0.out); (case s9 => exact Kd.V_nil _ _ _ _ _); rintro e w5 ⟨v, rfl, ho, hb⟩; refine ⟨_, rfl, ?_⟩; have N_ := Aside0.mk (below_step HB.out hb); clear HB; have HB := N_; clear N_; have N_ := Aside0.mk (blk_below BC.out hb); clear BC; have BC := N_; clear N_; have N_ := Aside0.mk (Kd.R_below LO.out hb); clear LO; have LO := N_; clear N_; clear ho hb L0 H0))
  clear y0 y1 y2 y3 y4
  have y0 := (blk_cell BC.out 0).trans (show _ = some (.int .i64 1) from rfl)
  have y1 := (blk_cell BC.out 1).trans (show _ = some (.slice AO one.length cO) from rfl)
  have y2 := (blk_cell BC.out 2).trans (show _ = some (.slice none 0 0) from rfl)
  have y3 := (blk_cell BC.out 3).trans (show _ = some (.slice none 0 0) from rfl)
  have y4 := (blk_cell BC.out 4).trans (show _ = some (.slice none 0 0) from rfl)
  go_upto_region 20 with (first
    | ((with_reducible refine gate_dst (N := 133) rfl ?_); refine Kd.R_lit (Kd.int .u8) _ 5 ?hg (N := 133) ?hd (xs := ([3] : List Int)) (inner := [.int .u8 3]) (ok := fun _ => True) (okp := fun _ => True) ?hr ?hp (fun _ hk => hk) trivial (Below.refl _ _) (Nat.le_refl _) (by simp) ?_; (case hd => rfl); (case hg => rfl); (case hr => first | (go_simp; done) | (go_simp; rfl)); (case hp => exact (Reps.one (show Kd.M (Kd.int .u8) _ _ _ 3 [.int .u8 3] from rfl) (Reps.none _ _))); intro v1 w1 ho hb hg hn; clear hg hn; have N_ := Aside0.mk (below_step HB.out hb); clear HB; have HB := N_; clear N_; have N_ := Aside0.mk (blk_below BC.out hb); clear BC; have BC := N_; clear N_; have N_ := Aside0.mk (Kd.R_below LO.out hb); clear LO; have LO := N_; clear N_; obtain ⟨A0, c0, rfl⟩ := Kd.R_slice ho; have L0 := Aside0.mk (Kd.R_lower ho (Nat.zero_le _)); have H0 := Aside0.mk (Kd.R_reads' ho).2.1; clear ho hb)
    | ((with_reducible refine gate_dst (N := 134) rfl ?_); refine Kd.R_lit (Kd.int .u8) _ 5 ?hg (N := 134) ?hd (xs := ([0] : List Int)) (inner := [.int .u8 0]) (ok := fun _ => True) (okp := fun _ => True) ?hr ?hp (fun _ hk => hk) trivial (Below.refl _ _) (Nat.le_refl _) (by simp) ?_; (case hd => rfl); (case hg => rfl); (case hr => first | (go_simp; done) | (go_simp; rfl)); (case hp => exact (Reps.one (show Kd.M (Kd.int .u8) _ _ _ 0 [.int .u8 0] from rfl) (Reps.none _ _))); intro v1 w1 ho hb hg hn; clear hg hn; have N_ := Aside0.mk (below_step HB.out hb); clear HB; have HB := N_; clear N_; have N_ := Aside0.mk (blk_below BC.out hb); clear BC; have BC := N_; clear N_; have N_ := Aside0.mk (Kd.R_below LO.out hb); clear LO; have LO := N_; clear N_; have N_ := Aside0.mk (Kd.R_below L0.out hb); clear L0; have L0 := N_; clear N_; obtain ⟨A1, c1, rfl⟩ := Kd.R_slice ho; have L1 := Aside0.mk (Kd.R_lower ho (Nat.zero_le _)); have H1 := Aside0.mk (Kd.R_reads' ho).2.1; clear ho hb)
    | ((with_reducible refine gate_callee (f := 24) rfl ?_); refine goesL_ (some 135) rfl rfl Try.func24 (by kernel_rfl) rfl #[.agg #[.int .i64 1, .slice AO one.length cO, .slice none ([] : List Int).length 0, .slice none ([] : List Int).length 0, .slice none ([] : List Int).length 0], .slice A0 ([3] : List Int).length c0, .slice A1 ([0] : List Int).length c1] rfl (by (try simp only [List.map_toArray, List.map_cons, List.map_nil]); first | done | rfl) ?_; (refine (ternary_Next.calls k 1 _ _ one _ _ [] _ _ [] _ _ [] _ _ ([3] : List Int) _ _ ([0] : List Int) ([] : List Int) 8 _ ?s0 ?s1 ?s2 ?s3 ?s4 ?s5 ?s6 ?s7 ?s8 ?s9 ?s10 ?s11 G2_.out).mono ?_); (case s0 => exact (Kd.R_reads' LO.out).2.2); (case s1 => exact HO.out); (case s2 => exact Kd.C_nil _ _); (case s3 => exact Nat.le_refl _); (case s4 => exact Kd.C_nil _ _); (case s5 => exact Nat.le_refl _); (case s6 => exact Kd.C_nil _ _); (case s7 => exact Nat.le_refl _); (case s8 => exact (Kd.R_reads' L0.out).2.2); (case s9 => exact H0.out); (case s10 => exact (Kd.R_reads' L1.out).2.2); (case s11 => exact H1.out); rintro e w5 ⟨v, rfl, ho, hb⟩; refine ⟨_, rfl, ?_⟩; have N_ := Aside0.mk (below_step HB.out hb); clear HB; have HB := N_; clear N_; have N_ := Aside0.mk (blk_below BC.out hb); clear BC; have BC := N_; clear N_; have N_ := Aside0.mk (Kd.R_below LO.out hb); clear LO; have LO := N_; clear N_; clear ho hb L0 H0 L1 H1))
  clear y0 y1 y2 y3 y4
  have y0 := (blk_cell BC.out 0).trans (show _ = some (.int .i64 1) from rfl)
  have y1 := (blk_cell BC.out 1).trans (show _ = some (.slice AO one.length cO) from rfl)
  have y2 := (blk_cell BC.out 2).trans (show _ = some (.slice none 0 0) from rfl)
  have y3 := (blk_cell BC.out 3).trans (show _ = some (.slice none 0 0) from rfl)
  have y4 := (blk_cell BC.out 4).trans (show _ = some (.slice none 0 0) from rfl)
  go_upto_region 21 with (first
    | ((with_reducible refine gate_dst (N := 140) rfl ?_); refine Kd.R_lit (Kd.int .u8) _ 5 ?hg (N := 140) ?hd (xs := ([0] : List Int)) (inner := [.int .u8 0]) (ok := fun _ => True) (okp := fun _ => True) ?hr ?hp (fun _ hk => hk) trivial (Below.refl _ _) (Nat.le_refl _) (by simp) ?_; (case hd => rfl); (case hg => rfl); (case hr => first | (go_simp; done) | (go_simp; rfl)); (case hp => exact (Reps.one (show Kd.M (Kd.int .u8) _ _ _ 0 [.int .u8 0] from rfl) (Reps.none _ _))); intro v1 w1 ho hb hg hn; clear hg hn; have N_ := Aside0.mk (below_step HB.out hb); clear HB; have HB := N_; clear N_; have N_ := Aside0.mk (blk_below BC.out hb); clear BC; have BC := N_; clear N_; have N_ := Aside0.mk (Kd.R_below LO.out hb); clear LO; have LO := N_; clear N_; obtain ⟨A0, c0, rfl⟩ := Kd.R_slice ho; have L0 := Aside0.mk (Kd.R_lower ho (Nat.zero_le _)); have H0 := Aside0.mk (Kd.R_reads' ho).2.1; clear ho hb)
    | ((with_reducible refine gate_dst (N := 141) rfl ?_); refine Kd.R_lit (Kd.int .u8) _ 5 ?hg (N := 141) ?hd (xs := ([4] : List Int)) (inner := [.int .u8 4]) (ok := fun _ => True) (okp := fun _ => True) ?hr ?hp (fun _ hk => hk) trivial (Below.refl _ _) (Nat.le_refl _) (by simp) ?_; (case hd => rfl); (case hg => rfl); (case hr => first | (go_simp; done) | (go_simp; rfl)); (case hp => exact (Reps.one (show Kd.M (Kd.int .u8) _ _ _ 4 [.int .u8 4] from rfl) (Reps.none _ _))); intro v1 w1 ho hb hg hn; clear hg hn; have N_ := Aside0.mk (below_step HB.out hb); clear HB; have HB := N_; clear N_; have N_ := Aside0.mk (blk_below BC.out hb); clear BC; have BC := N_; clear N_; have N_ := Aside0.mk (Kd.R_below LO.out hb); clear LO; have LO := N_; clear N_; have N_ := Aside0.mk (Kd.R_below L0.out hb); clear L0; have L0 := N_; clear N_; obtain ⟨A1, c1, rfl⟩ := Kd.R_slice ho; have L1 := Aside0.mk (Kd.R_lower ho (Nat.zero_le _)); have H1 := Aside0.mk (Kd.R_reads' ho).2.1; clear ho hb)
    | ((with_reducible refine gate_callee (f := 22) rfl ?_); refine goesL_ (some 142) rfl rfl Try.func22 (by kernel_rfl) rfl #[.agg #[.int .i64 1, .slice AO one.length cO, .slice none ([] : List Int).length 0, .slice none ([] : List Int).length 0, .slice none ([] : List Int).length 0], .slice A0 ([0] : List Int).length c0, .slice A1 ([4] : List Int).length c1] rfl (by (try simp only [List.map_toArray, List.map_cons, List.map_nil]); first | done | rfl) ?_; (refine (ternary_All.calls k 1 _ _ one _ _ [] _ _ [] _ _ [] (fun _ => True) _ _ ([0] : List Int) (fun _ => True) _ _ ([4] : List Int) ([] : List Int) 8 _ ?s0 ?s1 ?s2 ?s3 ?s4 ?s5 ?s6 ?s7 ?s8 ?s9 G3_.out).mono ?_); (case s0 => exact (Kd.R_reads' LO.out).2.2); (case s1 => exact HO.out); (case s2 => exact Kd.C_nil _ _); (case s3 => exact Nat.le_refl _); (case s4 => exact Kd.C_nil _ _); (case s5 => exact Nat.le_refl _); (case s6 => exact Kd.C_nil _ _); (case s7 => exact Nat.le_refl _); (case s8 => exact Kd.R_V L0.out); (case s9 => exact Kd.R_V L1.out); rintro e w5 ⟨v, rfl, ho, hb⟩; refine ⟨_, rfl, ?_⟩; have N_ := Aside0.mk (below_step HB.out hb); clear HB; have HB := N_; clear N_; have N_ := Aside0.mk (blk_below BC.out hb); clear BC; have BC := N_; clear N_; have N_ := Aside0.mk (Kd.R_below LO.out hb); clear LO; have LO := N_; clear N_; clear ho hb L0 H0 L1 H1))
  clear y0 y1 y2 y3 y4
  go_upto_region 22 with ((with_reducible refine gate_callee (f := 24) rfl ?_); refine goesL_ (some 147) rfl rfl Try.func24 (by kernel_rfl) rfl #[.agg #[.int .i64 (-1), .slice none ([] : List S61).length 0, .slice none ([] : List S71).length 0, .slice none ([] : List Int).length 0, .slice none ([] : List Int).length 0], .slice none ([] : List Int).length 0, .slice none ([] : List Int).length 0] rfl (by (try simp only [List.map_toArray, List.map_cons, List.map_nil]); first | done | rfl) ?_; (refine (ternary_Next.calls k (-1) _ _ [] _ _ [] _ _ [] _ _ [] _ _ [] _ _ [] [] 8 _ ?s0 ?s1 ?s2 ?s3 ?s4 ?s5 ?s6 ?s7 ?s8 ?s9 ?s10 ?s11 G4_.out).mono ?_); (case s0 => exact Kd.C_nil _ _); (case s1 => exact Nat.le_refl _); (case s2 => exact Kd.C_nil _ _); (case s3 => exact Nat.le_refl _); (case s4 => exact Kd.C_nil _ _); (case s5 => exact Nat.le_refl _); (case s6 => exact Kd.C_nil _ _); (case s7 => exact Nat.le_refl _); (case s8 => exact Kd.C_nil _ _); (case s9 => exact Nat.le_refl _); (case s10 => exact Kd.C_nil _ _); (case s11 => exact Nat.le_refl _); rintro e w5 ⟨v, rfl, ho, hb⟩; refine ⟨_, rfl, ?_⟩; have N_ := Aside0.mk (below_step HB.out hb); clear HB; have HB := N_; clear N_; have N_ := Aside0.mk (blk_below BC.out hb); clear BC; have BC := N_; clear N_; have N_ := Aside0.mk (Kd.R_below LO.out hb); clear LO; have LO := N_; clear N_; clear ho hb)
  go_upto_region 23 with ((with_reducible refine gate_callee (f := 26) rfl ?_); refine goesL_ (some 152) rfl rfl Try.func26 (by kernel_rfl) rfl #[.agg #[.int .i64 1001, .slice none ([] : List S61).length 0, .slice none ([] : List S71).length 0, .slice none ([] : List Int).length 0, .slice none ([] : List Int).length 0]] rfl (by (try simp only [List.map_toArray, List.map_cons, List.map_nil]); first | done | rfl) ?_; (refine (ternary_First.calls k 1001 _ _ [] _ _ [] _ _ [] _ _ [] [] 4 _ ?s0 ?s1 ?s2 ?s3 ?s4 ?s5 ?s6 ?s7 G5_.out).mono ?_); (case s0 => exact Kd.C_nil _ _); (case s1 => exact Nat.le_refl _); (case s2 => exact Kd.C_nil _ _); (case s3 => exact Nat.le_refl _); (case s4 => exact Kd.C_nil _ _); (case s5 => exact Nat.le_refl _); (case s6 => exact Kd.C_nil _ _); (case s7 => exact Nat.le_refl _); rintro e w5 ⟨v, rfl, ho, hb⟩; refine ⟨_, rfl, ?_⟩; have N_ := Aside0.mk (below_step HB.out hb); clear HB; have HB := N_; clear N_; have N_ := Aside0.mk (blk_below BC.out hb); clear BC; have BC := N_; clear N_; have N_ := Aside0.mk (Kd.R_below LO.out hb); clear LO; have LO := N_; clear N_; clear ho hb)
  have y0 := (blk_cell BC.out 0).trans (show _ = some (.int .i64 1) from rfl)
  have y1 := (blk_cell BC.out 1).trans (show _ = some (.slice AO one.length cO) from rfl)
  have y2 := (blk_cell BC.out 2).trans (show _ = some (.slice none 0 0) from rfl)
  have y3 := (blk_cell BC.out 3).trans (show _ = some (.slice none 0 0) from rfl)
  have y4 := (blk_cell BC.out 4).trans (show _ = some (.slice none 0 0) from rfl)
  go_upto_region 24 with ((with_reducible refine gate_callee (f := 26) rfl ?_); refine goesL_ (some 157) rfl rfl Try.func26 (by kernel_rfl) rfl #[.agg #[.int .i64 1, .slice AO one.length cO, .slice none ([] : List Int).length 0, .slice none ([] : List Int).length 0, .slice none ([] : List Int).length 0]] rfl (by (try simp only [List.map_toArray, List.map_cons, List.map_nil]); first | done | rfl) ?_; (refine (ternary_First.calls k 1 _ _ one _ _ [] _ _ [] _ _ [] ([1] : List Int) 0 _ ?s0 ?s1 ?s2 ?s3 ?s4 ?s5 ?s6 ?s7 G6_.out).mono ?_); (case s0 => exact (Kd.R_reads' LO.out).2.2); (case s1 => exact HO.out); (case s2 => exact Kd.C_nil _ _); (case s3 => exact Nat.le_refl _); (case s4 => exact Kd.C_nil _ _); (case s5 => exact Nat.le_refl _); (case s6 => exact Kd.C_nil _ _); (case s7 => exact Nat.le_refl _); rintro e w5 ⟨v, rfl, ho, hb⟩; refine ⟨_, rfl, ?_⟩; have N_ := Aside0.mk (below_step HB.out hb); clear HB; have HB := N_; clear N_; have N_ := Aside0.mk (blk_below BC.out hb); clear BC; have BC := N_; clear N_; have N_ := Aside0.mk (Kd.R_below LO.out hb); clear LO; have LO := N_; clear N_; obtain ⟨AF, cF, rfl⟩ := Kd.R_slice ho; have LF := Aside0.mk (Kd.R_lower (Kd.R_mono (ok' := fun _ => True) ho (fun _ _ => trivial)) (Nat.zero_le _)); have HF := Aside0.mk (Kd.R_reads' ho).2.1; clear ho hb )
  clear y0 y1 y2 y3 y4
  have y0 := (blk_cell BC.out 0).trans (show _ = some (.int .i64 1) from rfl)
  have y1 := (blk_cell BC.out 1).trans (show _ = some (.slice AO one.length cO) from rfl)
  have y2 := (blk_cell BC.out 2).trans (show _ = some (.slice none 0 0) from rfl)
  have y3 := (blk_cell BC.out 3).trans (show _ = some (.slice none 0 0) from rfl)
  have y4 := (blk_cell BC.out 4).trans (show _ = some (.slice none 0 0) from rfl)
  go_upto_region 25 with (first
    | ((with_reducible refine gate_dst (N := 162) rfl ?_); refine Kd.R_lit (Kd.int .u8) _ 5 ?hg (N := 162) ?hd (xs := ([2] : List Int)) (inner := [.int .u8 2]) (ok := fun _ => True) (okp := fun _ => True) ?hr ?hp (fun _ hk => hk) trivial (Below.refl _ _) (Nat.le_refl _) (by simp) ?_; (case hd => rfl); (case hg => rfl); (case hr => first | (go_simp; done) | (go_simp; rfl)); (case hp => exact (Reps.one (show Kd.M (Kd.int .u8) _ _ _ 2 [.int .u8 2] from rfl) (Reps.none _ _))); intro v1 w1 ho hb hg hn; clear hg hn; have N_ := Aside0.mk (below_step HB.out hb); clear HB; have HB := N_; clear N_; have N_ := Aside0.mk (blk_below BC.out hb); clear BC; have BC := N_; clear N_; have N_ := Aside0.mk (Kd.R_below LO.out hb); clear LO; have LO := N_; clear N_; have N_ := Aside0.mk (Kd.R_below LF.out hb); clear LF; have LF := N_; clear N_; obtain ⟨A0, c0, rfl⟩ := Kd.R_slice ho; have L0 := Aside0.mk (Kd.R_lower ho (Nat.zero_le _)); have H0 := Aside0.mk (Kd.R_reads' ho).2.1; clear ho hb)
    | ((with_reducible refine gate_dst (N := 163) rfl ?_); refine Kd.R_lit (Kd.int .u8) _ 5 ?hg (N := 163) ?hd (xs := ([0] : List Int)) (inner := [.int .u8 0]) (ok := fun _ => True) (okp := fun _ => True) ?hr ?hp (fun _ hk => hk) trivial (Below.refl _ _) (Nat.le_refl _) (by simp) ?_; (case hd => rfl); (case hg => rfl); (case hr => first | (go_simp; done) | (go_simp; rfl)); (case hp => exact (Reps.one (show Kd.M (Kd.int .u8) _ _ _ 0 [.int .u8 0] from rfl) (Reps.none _ _))); intro v1 w1 ho hb hg hn; clear hg hn; have N_ := Aside0.mk (below_step HB.out hb); clear HB; have HB := N_; clear N_; have N_ := Aside0.mk (blk_below BC.out hb); clear BC; have BC := N_; clear N_; have N_ := Aside0.mk (Kd.R_below LO.out hb); clear LO; have LO := N_; clear N_; have N_ := Aside0.mk (Kd.R_below LF.out hb); clear LF; have LF := N_; clear N_; have N_ := Aside0.mk (Kd.R_below L0.out hb); clear L0; have L0 := N_; clear N_; obtain ⟨A1, c1, rfl⟩ := Kd.R_slice ho; have L1 := Aside0.mk (Kd.R_lower ho (Nat.zero_le _)); have H1 := Aside0.mk (Kd.R_reads' ho).2.1; clear ho hb)
    | ((with_reducible refine gate_callee (f := 24) rfl ?_); refine goesL_ (some 164) rfl rfl Try.func24 (by kernel_rfl) rfl #[.agg #[.int .i64 1, .slice AO one.length cO, .slice none ([] : List Int).length 0, .slice none ([] : List Int).length 0, .slice none ([] : List Int).length 0], .slice A0 ([2] : List Int).length c0, .slice A1 ([0] : List Int).length c1] rfl (by (try simp only [List.map_toArray, List.map_cons, List.map_nil]); first | done | rfl) ?_; (refine (ternary_Next.calls k 1 _ _ one _ _ [] _ _ [] _ _ [] _ _ ([2] : List Int) _ _ ([0] : List Int) ([2] : List Int) 0 _ ?s0 ?s1 ?s2 ?s3 ?s4 ?s5 ?s6 ?s7 ?s8 ?s9 ?s10 ?s11 G7_.out).mono ?_); (case s0 => exact (Kd.R_reads' LO.out).2.2); (case s1 => exact HO.out); (case s2 => exact Kd.C_nil _ _); (case s3 => exact Nat.le_refl _); (case s4 => exact Kd.C_nil _ _); (case s5 => exact Nat.le_refl _); (case s6 => exact Kd.C_nil _ _); (case s7 => exact Nat.le_refl _); (case s8 => exact (Kd.R_reads' L0.out).2.2); (case s9 => exact H0.out); (case s10 => exact (Kd.R_reads' L1.out).2.2); (case s11 => exact H1.out); rintro e w5 ⟨v, rfl, ho, hb⟩; refine ⟨_, rfl, ?_⟩; have N_ := Aside0.mk (below_step HB.out hb); clear HB; have HB := N_; clear N_; have N_ := Aside0.mk (blk_below BC.out hb); clear BC; have BC := N_; clear N_; have N_ := Aside0.mk (Kd.R_below LO.out hb); clear LO; have LO := N_; clear N_; have N_ := Aside0.mk (Kd.R_below LF.out hb); clear LF; have LF := N_; clear N_; obtain ⟨AN, cN, rfl⟩ := Kd.R_slice ho; have LN := Aside0.mk (Kd.R_lower (Kd.R_mono (ok' := fun _ => True) ho (fun _ _ => trivial)) (Nat.zero_le _)); have HN := Aside0.mk (Kd.R_reads' ho).2.1; clear ho hb L0 H0 L1 H1))
  clear y0 y1 y2 y3 y4
  clear BC LO HO
  go_wp2_with (first
    | ((with_reducible refine gate_dst (N := 217) rfl ?_); (try (refine gate_guard (by rfl) ?_; dsimp only)); refine Kd.R_lit (Kd.int .u8) _ 5 ?hg (N := 217) ?hd (xs := ([1] : List Int)) (inner := [.int .u8 1]) (ok := fun _ => True) (okp := fun _ => True) ?hr ?hp (fun _ hk => hk) trivial (Below.refl _ _) (Nat.le_refl _) (by simp) ?_; (case hd => rfl); (case hg => rfl); (case hr => first | (go_simp; done) | (go_simp; rfl)); (case hp => exact (Reps.one (show Kd.M (Kd.int .u8) _ _ _ 1 [.int .u8 1] from rfl) (Reps.none _ _))); intro v1 w1 ho hb hg hn; clear hg hn; have N_ := Aside0.mk (below_step HB.out hb); clear HB; have HB := N_; clear N_; have N_ := Aside0.mk (Kd.R_below LF.out hb); clear LF; have LF := N_; clear N_; have N_ := Aside0.mk (Kd.R_below LN.out hb); clear LN; have LN := N_; clear N_; obtain ⟨A0, c0, rfl⟩ := Kd.R_slice ho; have L0 := Aside0.mk (Kd.R_lower ho (Nat.zero_le _)); have H0 := Aside0.mk (Kd.R_reads' ho).2.1; clear ho hb)
    | (go_at_call_of 19 AF; show Calls Try.prog 19 #[.slice AF ([1] : List Int).length cF, .slice A0 ([1] : List Int).length c0] _ _; (with_reducible refine (spiritlevelref05_Same.calls k _ _ [1] _ _ [1] true _ ?s0 ?s1 ?s2 ?s3 S1_.out).mono ?_); (case s0 => exact (Kd.R_reads' LF.out).2.2); (case s1 => exact HF.out); (case s2 => exact (Kd.R_reads' L0.out).2.2); (case s3 => exact H0.out); rintro e w5 ⟨rfl, hd⟩; have hb := hd.below; have N_ := Aside0.mk (below_step HB.out hb); clear HB; have HB := N_; clear N_; have N_ := Aside0.mk (Kd.R_below LF.out hb); clear LF; have LF := N_; clear N_; have N_ := Aside0.mk (Kd.R_below LN.out hb); clear LN; have LN := N_; clear N_; clear hd hb L0 H0)
    | ((with_reducible refine gate_dst (N := 226) rfl ?_); (try (refine gate_guard (by rfl) ?_; dsimp only)); refine Kd.R_lit (Kd.int .u8) _ 5 ?hg (N := 226) ?hd (xs := ([2] : List Int)) (inner := [.int .u8 2]) (ok := fun _ => True) (okp := fun _ => True) ?hr ?hp (fun _ hk => hk) trivial (Below.refl _ _) (Nat.le_refl _) (by simp) ?_; (case hd => rfl); (case hg => rfl); (case hr => first | (go_simp; done) | (go_simp; rfl)); (case hp => exact (Reps.one (show Kd.M (Kd.int .u8) _ _ _ 2 [.int .u8 2] from rfl) (Reps.none _ _))); intro v1 w1 ho hb hg hn; clear hg hn; have N_ := Aside0.mk (below_step HB.out hb); clear HB; have HB := N_; clear N_; have N_ := Aside0.mk (Kd.R_below LF.out hb); clear LF; have LF := N_; clear N_; have N_ := Aside0.mk (Kd.R_below LN.out hb); clear LN; have LN := N_; clear N_; obtain ⟨A1, c1, rfl⟩ := Kd.R_slice ho; have L1 := Aside0.mk (Kd.R_lower ho (Nat.zero_le _)); have H1 := Aside0.mk (Kd.R_reads' ho).2.1; clear ho hb)
    | (go_at_call_of 19 AN; show Calls Try.prog 19 #[.slice AN ([2] : List Int).length cN, .slice A1 ([2] : List Int).length c1] _ _; (with_reducible refine (spiritlevelref05_Same.calls k _ _ [2] _ _ [2] true _ ?s0 ?s1 ?s2 ?s3 S2_.out).mono ?_); (case s0 => exact (Kd.R_reads' LN.out).2.2); (case s1 => exact HN.out); (case s2 => exact (Kd.R_reads' L1.out).2.2); (case s3 => exact H1.out); rintro e w5 ⟨rfl, hd⟩; have hb := hd.below; have N_ := Aside0.mk (below_step HB.out hb); clear HB; have HB := N_; clear N_; have N_ := Aside0.mk (Kd.R_below LF.out hb); clear LF; have LF := N_; clear N_; have N_ := Aside0.mk (Kd.R_below LN.out hb); clear LN; have LN := N_; clear N_; clear hd hb L1 H1)
    | (go_at_call 16; show Calls Try.prog 16 #[] _ _; (with_reducible refine (spiritlevellaw05_alive.calls k true _ AL_.out).mono ?_); rintro e w5 ⟨rfl, hb⟩; have N_ := Aside0.mk (below_step HB.out hb); clear HB; have HB := N_; clear N_; have N_ := Aside0.mk (Kd.R_below LF.out hb); clear LF; have LF := N_; clear N_; have N_ := Aside0.mk (Kd.R_below LN.out hb); clear LN; have LN := N_; clear N_; clear hb))
  go_ret
  exact ⟨rfl, HB.out⟩
end Go.Proofs.Ytddelmbkbpoelaa.QTernaryNames
