import Derived.Test.YtlgoniocoifjjaaLay
import Derived.Test.YtlgoniocoifjjaaQConstantsPassesx0
import Derived.Test.YtlgoniocoifjjaaQConstantsPassesx4
import Derived.Test.YtlgoniocoifjjaaQConstantsPassesx6
import Derived.Test.YtlgoniocoifjjaaQConstantsPassesx11
import Derived.Test.YtlgoniocoifjjaaQConstantsPassesx12
import Derived.Test.YtlgoniocoifjjaaQConstantsPassesx13
namespace Go.Proofs.Ytlgoniocoifjjaa.QConstantsPasses
open Go.RowKit Go.Proofs.YtlgoniocoifjjaaW.PrintWords Go.Proofs.YtlgoniocoifjjaaW.PrintLast Go.Proofs.YtlgoniocoifjjaaW.PrintMore
attribute [local go_sem] max2_int min2_int max_two min_two max_three min_three max_four min_four
set_option linter.unusedVariables false
set_option linter.unusedSimpArgs false

-- constants_find.f spiritlevelref26_Built.f spiritlevelref26_None.f
def stayQ (X C : List S45) (S : List Int) : List Int := S.filter fun x => (rd_T45 X x).f0 == (rd_T45 C x).f1
theorem stayQ_yes (X C : List S45) (S : List Int) (j : Nat) (h : j < S.length) (e : ((rd_T45 X S[j]).f0 == (rd_T45 C S[j]).f1) = true) : stayQ X C (S.take (j + 1)) = stayQ X C (S.take j) ++ [S[j]] := by
 unfold stayQ
 rw [List.take_succ_eq_append_getElem h, List.filter_append, List.filter_cons, if_pos e]
 rfl
theorem stayQ_no (X C : List S45) (S : List Int) (j : Nat) (h : j < S.length) (e : ((rd_T45 X S[j]).f0 == (rd_T45 C S[j]).f1) = false) : stayQ X C (S.take (j + 1)) = stayQ X C (S.take j) := by
 unfold stayQ
 rw [List.take_succ_eq_append_getElem h, List.filter_append, List.filter_cons, if_neg (by rw [e]; decide)]
 simp
theorem stayQ_len (X C : List S45) (S : List Int) : (stayQ X C S).length ≤ S.length := List.length_filter_le _ _
def okI (a : Int) (l1 : List S45) (n : Nat) (S : List Int) : Bool := decide (0 ≤ a ∧ a ≤ 10000 ∧ l1.length ≤ 10000 ∧ 0 < n ∧ S.length ≤ 10000) && S.all (fun x => decide ((0 ≤ x ∧ x < (l1.length : Int)) ∧ a + 1 + x < (n : Int)))
def staysL (kk : Nat) (a0_0 : Int) (l0_1 : List S45) (l0_2 : List S55) (l0_3 l0_4 : List Int) : Nat → List Int → Option (List Int × Int × List S45 × List S55 × List Int × List Int)
 | 0, _ => none
 | k + 1, S => (spiritlevelref26_None.f kk a0_0 l0_1 l0_2 l0_3 l0_4).bind fun g => if okI a0_0 l0_1 g.length S = true then ((spiritlevelref26_Built.f a0_0 l0_1 l0_2 l0_3 l0_4 (S.foldl (fun g x => g.set (a0_0 + 1 + x).toNat (rd_T45 l0_1 x).f1) g)).bind fun x => if x.2.1.length = l0_1.length then (if (stayQ x.2.1 l0_1 S).length = S.length then some (S, x.1, x.2.1, x.2.2.1, x.2.2.2.1, x.2.2.2.2.1) else staysL kk a0_0 l0_1 l0_2 l0_3 l0_4 k (stayQ x.2.1 l0_1 S)) else none) else none
def spiritlevelref27_Stays.f (k : Nat) (a0_0 : Int) (l0_1 : List (S45)) (l0_2 : List (S55)) (l0_3 : List Int) (l0_4 : List Int) : Option (List Int × Int × (List (S45)) × (List (S55)) × List Int × List Int) := if l0_1.length ≤ 10000 then staysL k a0_0 l0_1 l0_2 l0_3 l0_4 k (initP l0_1 l0_1.length) else none
set_option maxHeartbeats 8000000 in
set_option maxRecDepth 100000 in
theorem spiritlevelref27_Stays.calls (k : Nat) (a0_0 : Int) (A0_1 : Option Addr) (c0_1 : Nat) (l0_1 : List (S45)) (A0_2 : Option Addr) (c0_2 : Nat) (l0_2 : List (S55)) (A0_3 : Option Addr) (c0_3 : Nat) (l0_3 : List Int) (A0_4 : Option Addr) (c0_4 : Nat) (l0_4 : List Int) (r1 : List Int) (r2 : Int) (r3 : List (S45)) (r4 : List (S55)) (r5 : List Int) (r6 : List Int) (w : World) (hr0_1 : Kd.C k45 w A0_1 l0_1.length l0_1) (hc0_1 : l0_1.length ≤ c0_1) (hr0_2 : Kd.C k55 w A0_2 l0_2.length l0_2) (hc0_2 : l0_2.length ≤ c0_2) (hr0_3 : Kd.C (Kd.int .i64) w A0_3 l0_3.length l0_3) (hc0_3 : l0_3.length ≤ c0_3) (hr0_4 : Kd.C (Kd.int .i64) w A0_4 l0_4.length l0_4) (hc0_4 : l0_4.length ≤ c0_4) (h : spiritlevelref27_Stays.f k a0_0 l0_1 l0_2 l0_3 l0_4 = some (r1, r2, r3, r4, r5, r6)) :
  Calls Try.prog 45 #[.agg #[.int .i64 a0_0, .slice A0_1 l0_1.length c0_1, .slice A0_2 l0_2.length c0_2, .slice A0_3 l0_3.length c0_3, .slice A0_4 l0_4.length c0_4]] w fun e w' => ∃ v0_ v2_ v3_ v4_ v5_ : Value, e = .returned (.tuple #[v0_, .agg #[.int .i64 r2, v2_, v3_, v4_, v5_]]) ∧ Kd.R (Kd.int .i64) 3 w' w.heap.size (fun k_ => some k_ ≠ (v4_ : Value).ownBlock ∧ some k_ ≠ (v5_ : Value).ownBlock) v0_ r1 ∧ Kd.R k45 45 w' w.heap.size (fun _ => True) v2_ r3 ∧ Kd.R k55 55 w' w.heap.size (fun _ => True) v3_ r4 ∧ Kd.R (Kd.int .i64) 3 w' w.heap.size (fun k_ => some k_ ≠ (v0_ : Value).ownBlock ∧ some k_ ≠ (v5_ : Value).ownBlock) v4_ r5 ∧ Kd.R (Kd.int .i64) 3 w' w.heap.size (fun k_ => some k_ ≠ (v0_ : Value).ownBlock ∧ some k_ ≠ (v4_ : Value).ownBlock) v5_ r6 ∧ Below w.heap.size w w' := by
 have hu26 := Try.underlying26
 unfold spiritlevelref27_Stays.f at h
 by_cases hl1 : l0_1.length ≤ 10000
 case neg => rw [if_neg hl1] at h; exact absurd h (by simp)
 rw [if_pos hl1] at h
 have HR0_1 := M_ hr0_1
 have HC0_1 := M_ hc0_1
 have HR0_2 := M_ hr0_2
 have HC0_2 := M_ hc0_2
 have HR0_3 := M_ hr0_3
 have HC0_3 := M_ hc0_3
 have HR0_4 := M_ hr0_4
 have HC0_4 := M_ hc0_4
 have HFL := M_ h
 have HS := M_ hl1
 have HF := M_ (FB.mk (below_alloc (below_alloc (Below.refl w.heap.size w) (.cells #[.int .i64 a0_0, .slice A0_1 l0_1.length c0_1, .slice A0_2 l0_2.length c0_2, .slice A0_3 l0_3.length c0_3, .slice A0_4 l0_4.length c0_4] 26)) (.cells #[.int .i64 0, .slice none 0 0, .slice none 0 0, .slice none 0 0, .slice none 0 0] 26)) (blk_alloc (heap_alloc_new w (.cells #[.int .i64 a0_0, .slice A0_1 l0_1.length c0_1, .slice A0_2 l0_2.length c0_2, .slice A0_3 l0_3.length c0_3, .slice A0_4 l0_4.length c0_4] 26)) (.cells #[.int .i64 0, .slice none 0 0, .slice none 0 0, .slice none 0 0, .slice none 0 0] 26)) (zbox w #[.int .i64 a0_0, .slice A0_1 l0_1.length c0_1, .slice A0_2 l0_2.length c0_2, .slice A0_3 l0_3.length c0_3, .slice A0_4 l0_4.length c0_4]))
 clear hr0_1 hr0_2 hr0_3 hr0_4 hc0_1 hc0_2 hc0_3 hc0_4 h hl1
 go_enter Try.func45, Try.ntmps45
 go_upto_block 0 with fail
 generalize (w.alloc (.cells #[.int .i64 a0_0, .slice A0_1 l0_1.length c0_1, .slice A0_2 l0_2.length c0_2, .slice A0_3 l0_3.length c0_3, .slice A0_4 l0_4.length c0_4] 26)).alloc (.cells #[.int .i64 0, .slice none 0 0, .slice none 0 0, .slice none 0 0, .slice none 0 0] 26) = wb at HF ⊢
 go_cut [4] (fun v4 wx => Aside0 (FB w wx #[.int .i64 a0_0, .slice A0_1 l0_1.length c0_1, .slice A0_2 l0_2.length c0_2, .slice A0_3 l0_3.length c0_3, .slice A0_4 l0_4.length c0_4]) ∧ Aside0 (Kd.R (Kd.int .i64) 3 wx w.heap.size (fun _ => True) v4 (initP l0_1 l0_1.length)))
 case first =>
  go_wp2
  go_loopg [4, 5] (l0_1.length + 1) (fun kq v4 v5 w' => ∃ (i : Nat), v5 = .int .i64 (i : Int) ∧ Aside0 (i ≤ l0_1.length ∧ kq + i = l0_1.length + 1) ∧ Aside0 (FB w w' #[.int .i64 a0_0, .slice A0_1 l0_1.length c0_1, .slice A0_2 l0_2.length c0_2, .slice A0_3 l0_3.length c0_3, .slice A0_4 l0_4.length c0_4]) ∧ Aside0 (Kd.R (Kd.int .i64) 3 w' w.heap.size (fun _ => True) v4 (initP l0_1 i)))
  case atStart => exact ⟨0, by simp, ⟨by omega, by omega⟩, HF, ⟨Kd.R_nil _ _ _ _ _⟩⟩
  case round =>
   clear HF
   obtain ⟨i, rfl, HI, HF, HO⟩ := hrel
   have y1 := (blk_cell HF.out.hc 1).trans (show _ = some (.slice A0_1 l0_1.length c0_1) from rfl)
   by_cases c : i < l0_1.length
   ·have cb : decide (i < l0_1.length) = true := decide_eq_true c
    have HC := M_ c
    have p0 : (0 : Int) ≤ (i : Int) := by omega
    have p1 : (i : Int) < (l0_1.length : Int) := by omega
    obtain ⟨ad, rfl, hx0, hx1⟩ := at_T45 (Kd.C_below HR0_1.out HF.out.hb) (i : Int) p0 p1
    rw [Int.toNat_natCast] at hx0 hx1
    have HIN := M_ (And.intro (initP_yes l0_1 i) (initP_no l0_1 i))
    have HLE := M_ (initP_len l0_1 i)
    have EW := M_ (show wrap64 ((i : Int) + 1) = ((i + 1 : Nat) : Int) by have h1 := HS.out; unfold wrap64; omega)
    generalize (rd_T45 l0_1 (i : Int)).f1 = q at hx1 HIN
    clear hx0
    cases b2 : (q != 2) with
    | false =>
     have e := HIN.out.2 b2
     go_wp2
     go_roundg (gk - 1)
     case rel => exact ⟨i + 1, congrArg (Value.int .i64) EW.out, ⟨by have := HC.out; omega, by have := HI.out; have := HC.out; omega⟩, HF, ⟨by rw [e]; exact HO.out⟩⟩
     case measure => have := HI.out; have := HC.out; omega
    | true =>
     have HE := M_ (HIN.out.1 b2)
     go_wp2_with ((with_reducible refine gate_builtin (b := .append) (xs := #[.tmp 26, .tmp 28]) rfl ?_); at_builtin; (try rw [alloc_drew_]); refine Kd.R_append (Kd.int .i64) (w0 := w) w.heap.size rfl (.tmp 26) (.tmp 28) 24 3 (.int .i64 0) 8 rfl Try.underlying24 info3 rfl (by decide) (by omega) u4 (initP l0_1 i) (i : Int) [.int .i64 (i : Int)] (fun _ => True) (fun _ => False) rfl rfl ?aP (fun _ hk => hk.elim) ?aF ?aO ?aB ?aS ?aL ?_; (case aP => exact rfl); (case aB => exact HF.out.hb); (case aF => exact (fun _ _ => trivial)); (case aO => exact HO.out); (case aS => exact below_size HF.out.hb); (case aL => have h1 := HLE.out; have h2 := HI.out; have h3 := HS.out; omega); intro vn wn ho hb hg hat; rw [← HE.out] at ho; have HO3 := M_ ho; have HF3 := M_ (HF.out.over HO.out hg); (try clear ho); (try clear hb); (try clear hg); (try clear hat))
     go_roundg (gk - 1)
     case rel => exact ⟨i + 1, congrArg (Value.int .i64) EW.out, ⟨by have := HC.out; omega, by have := HI.out; have := HC.out; omega⟩, HF3, HO3⟩
     case measure => have := HI.out; have := HC.out; omega
   ·have cb : decide (i < l0_1.length) = false := decide_eq_false c
    have ei : i = l0_1.length := by have := HI.out; omega
    subst ei
    go_wp2
    go_meet
    exact ⟨HF, HO⟩
 case rest =>
  obtain ⟨HF1, HO⟩ := hcut
  clear HF
  have HF := HF1
  clear HF1
  go_wp2
  go_loopg [4] k (fun kq v4 w' => ∃ (S : List Int), Aside0 (staysL k a0_0 l0_1 l0_2 l0_3 l0_4 kq S = some (r1, r2, r3, r4, r5, r6)) ∧ Aside0 (kq ≤ k) ∧ Aside0 (FB w w' #[.int .i64 a0_0, .slice A0_1 l0_1.length c0_1, .slice A0_2 l0_2.length c0_2, .slice A0_3 l0_3.length c0_3, .slice A0_4 l0_4.length c0_4]) ∧ Aside0 (Kd.R (Kd.int .i64) 3 w' w.heap.size (fun _ => True) v4 S))
  case atStart => exact ⟨initP l0_1 l0_1.length, HFL, ⟨Nat.le_refl _⟩, HF, HO⟩
  case round =>
   clear HF HO HFL
   obtain ⟨S, HFK, HK, HF, HO⟩ := hrel
   cases gk with
   | zero => exact absurd HFK.out (by simp [staysL])
   | succ k1 =>
   have hfk := HFK.out
   rw [staysL] at hfk
   obtain ⟨g, hn, hfk⟩ := Option.bind_eq_some_iff.mp hfk
   by_cases hok : okI a0_0 l0_1 g.length S = true
   case neg => rw [if_neg hok] at hfk; exact absurd hfk (by simp)
   rw [if_pos hok] at hfk
   obtain ⟨⟨x1, XL, XG, XB, XD, T⟩, hb, hfk⟩ := Option.bind_eq_some_iff.mp hfk
   dsimp only at hfk
   by_cases cl : XL.length = l0_1.length
   case neg => rw [if_neg cl] at hfk; exact absurd hfk (by simp)
   rw [if_pos cl] at hfk
   unfold okI at hok
   simp only [Bool.and_eq_true, decide_eq_true_eq, List.all_eq_true] at hok
   have HNO := M_ hn
   have HOK := M_ hok
   have HBU := M_ hb
   have HCL := M_ cl
   have HFK2 := M_ hfk
   clear hn hok hb cl hfk HFK

   have y0 := (blk_cell HF.out.hc 0).trans (show _ = some (.int .i64 a0_0) from rfl)
   have y1 := (blk_cell HF.out.hc 1).trans (show _ = some (.slice A0_1 l0_1.length c0_1) from rfl)
   have y2 := (blk_cell HF.out.hc 2).trans (show _ = some (.slice A0_2 l0_2.length c0_2) from rfl)
   have y3 := (blk_cell HF.out.hc 3).trans (show _ = some (.slice A0_3 l0_3.length c0_3) from rfl)
   have y4 := (blk_cell HF.out.hc 4).trans (show _ = some (.slice A0_4 l0_4.length c0_4) from rfl)
   go_upto_region 8 with (go_at_call 23; (with_reducible refine (spiritlevelref26_None.calls k a0_0 A0_1 c0_1 l0_1 A0_2 c0_2 l0_2 A0_3 c0_3 l0_3 A0_4 c0_4 l0_4 g _ (Kd.C_below HR0_1.out HF.out.hb) HC0_1.out (Kd.C_below HR0_2.out HF.out.hb) HC0_2.out (Kd.C_below HR0_3.out HF.out.hb) HC0_3.out (Kd.C_below HR0_4.out HF.out.hb) HC0_4.out HNO.out).mono ?_); rintro e w2 ⟨v6, rfl, ho, hb⟩; obtain ⟨gg, cg, hv, hge, -, -⟩ := Kd.R_form ho HOK.out.1.2.2.2.1; subst hv; have HF2 := M_ (HF.out.below hb); have HG := M_ (Kd.R_lower ho HF.out.hb.size); have HO2 := M_ (Kd.R_mono (Kd.R_below (Kd.R_elderB HO.out gg hge) hb) (fun k hk => hk.2)); (try clear ho); (try clear hb); (try clear hge))
   clear HF HO y0 y1 y2 y3 y4
   obtain ⟨A7, c7, rfl⟩ := Kd.R_slice HO2.out
   go_upto_block 4 with fail
   go_cut [] (fun wx => Aside0 (FB w wx #[.int .i64 a0_0, .slice A0_1 l0_1.length c0_1, .slice A0_2 l0_2.length c0_2, .slice A0_3 l0_3.length c0_3, .slice A0_4 l0_4.length c0_4]) ∧ Aside0 (Kd.R (Kd.int .i64) 3 wx w.heap.size (fun k => k ≠ gg) (.slice A7 S.length c7) S) ∧ Aside0 (Kd.R (Kd.int .i64) 3 wx w.heap.size (fun _ => True) (.slice (some ⟨gg, 0, none⟩) g.length cg) (S.foldl (fun g x => g.set (a0_0 + 1 + x).toNat (rd_T45 l0_1 x).f1) g)))
   case first =>
    go_wp2
    go_loopg [7] (S.length + 1) (fun kq v7 w' => ∃ (j : Nat), v7 = .int .i64 (j : Int) ∧ Aside0 (j ≤ S.length ∧ kq + j = S.length + 1) ∧ Aside0 (FB w w' #[.int .i64 a0_0, .slice A0_1 l0_1.length c0_1, .slice A0_2 l0_2.length c0_2, .slice A0_3 l0_3.length c0_3, .slice A0_4 l0_4.length c0_4]) ∧ Aside0 (Kd.R (Kd.int .i64) 3 w' w.heap.size (fun k => k ≠ gg) (.slice A7 S.length c7) S) ∧ Aside0 (Kd.R (Kd.int .i64) 3 w' w.heap.size (fun _ => True) (.slice (some ⟨gg, 0, none⟩) g.length cg) ((S.take j).foldl (fun g x => g.set (a0_0 + 1 + x).toNat (rd_T45 l0_1 x).f1) g)))
    case atStart => exact ⟨0, by simp, ⟨by omega, by omega⟩, HF2, HO2, HG⟩
    case round =>
     clear HF2 HO2 HG
     obtain ⟨j, rfl, HI, HF, HO, HG⟩ := hrel
     by_cases c : j < S.length
     ·have cb : decide (j < S.length) = true := decide_eq_true c
      have HC := M_ c
      have p0 : (0 : Int) ≤ (j : Int) := by omega
      have p1 : (j : Int) < (S.length : Int) := by omega
      obtain ⟨ad, e7, hx0⟩ := Kd.at_int (Kd.R_reads' HO.out).2.2 (j : Int) p0 p1
      have er : rd S (j : Int) = S[j] := by simp [rd, List.getD, c]
      rw [Int.toNat_natCast, er] at hx0
      have hsx := HOK.out.2 S[j] (List.getElem_mem c)
      have hst := gvn_step a0_0 l0_1 g S j c
      generalize S[j] = x at hx0 hsx hst
      have HSX := M_ hsx
      have HST := M_ hst
      obtain ⟨ae, ea, hy0, hy1⟩ := at_T45 (Kd.C_below HR0_1.out HF.out.hb) x hsx.1.1 hsx.1.2
      subst e7
      subst ea
      have q0 := eq_true hsx.1.1
      have q1 := eq_true hsx.1.2
      clear hsx hst er hy0
      have z0 := (blk_cell HF.out.hc 0).trans (show _ = some (.int .i64 a0_0) from rfl)
      have z1 := (blk_cell HF.out.hc 1).trans (show _ = some (.slice (some ae) l0_1.length c0_1) from rfl)
      have u1 : wrap64 (a0_0 + 1) = a0_0 + 1 := by have h1 := HOK.out.1; unfold wrap64; omega
      have u2 : wrap64 (a0_0 + 1 + x) = a0_0 + 1 + x := by have h1 := HOK.out.1; have h2 := HSX.out; unfold wrap64; omega
      have u3 : (0 : Int) ≤ a0_0 + 1 + x := by have h1 := HOK.out.1; have h2 := HSX.out; omega
      have u4 : a0_0 + 1 + x < (g.length : Int) := HSX.out.2
      have U5 := M_ (show wrap64 ((j : Int) + 1) = ((j + 1 : Nat) : Int) by have h1 := HOK.out.1; have h3 := HC.out; unfold wrap64; omega)
      have hcell := Kd.R_celln (0 : Int) HG.out (a0_0 + 1 + x) u3 u4
      have hq1 := hcell.1
      have hq2 := hcell.2
      replace u3 := eq_true u3
      replace u4 := eq_true u4
      clear hcell
      generalize (rd_T45 l0_1 x).f1 = y at hy1 HST
      have HG2 := M_ (Kd.R_putg HG.out (a0_0 + 1 + x) y)
      go_upto_region 11 with fail
      go_region
      all_goals (
       go_wp2
       go_roundg (gk - 1)
       case measure => have := HI.out; have := HC.out; omega
       case rel => exact ⟨j + 1, congrArg (Value.int .i64) U5.out, ⟨by have := HC.out; omega, by have := HI.out; have := HC.out; omega⟩, ⟨(HF.out.over HG.out HG2.out.2).below (below_drew (Below.refl _ _))⟩, ⟨Kd.R_drew (Kd.R_far HO.out (fun k hk => hk) _)⟩, ⟨by rw [HST.out]; exact Kd.R_drew HG2.out.1⟩⟩)
     ·have cb : decide (j < S.length) = false := decide_eq_false c
      have ej : j = S.length := by have := HI.out; omega
      subst ej
      go_wp2
      go_meet
      exact ⟨HF, HO, ⟨by have := HG.out; rw [List.take_length] at this; exact this⟩⟩
   case rest =>
    obtain ⟨HF, HO, HG⟩ := hcut
    clear HF2 HO2
    have hlen : (S.foldl (fun g x => g.set (a0_0 + 1 + x).toNat (rd_T45 l0_1 x).f1) g).length = g.length := gvn_len a0_0 l0_1 S g
    have HGV := HG
    generalize S.foldl (fun g x => g.set (a0_0 + 1 + x).toNat (rd_T45 l0_1 x).f1) g = GV at HG HGV HBU hlen
    rw [← hlen] at HG
    have HGL := M_ hlen
    clear hlen HGV
    have hgl := HGL.out
    rw [← hgl]
    clear hgl
    have y0 := (blk_cell HF.out.hc 0).trans (show _ = some (.int .i64 a0_0) from rfl)
    have y1 := (blk_cell HF.out.hc 1).trans (show _ = some (.slice A0_1 l0_1.length c0_1) from rfl)
    have y2 := (blk_cell HF.out.hc 2).trans (show _ = some (.slice A0_2 l0_2.length c0_2) from rfl)
    have y3 := (blk_cell HF.out.hc 3).trans (show _ = some (.slice A0_3 l0_3.length c0_3) from rfl)
    have y4 := (blk_cell HF.out.hc 4).trans (show _ = some (.slice A0_4 l0_4.length c0_4) from rfl)
    go_upto_region 13 with (go_at_call 71; (with_reducible refine (spiritlevelref26_Built.calls a0_0 A0_1 c0_1 l0_1 A0_2 c0_2 l0_2 A0_3 c0_3 l0_3 A0_4 c0_4 l0_4 (some ⟨gg, 0, none⟩) cg GV x1 XL XG XB XD T _ (Kd.C_below HR0_1.out HF.out.hb) HC0_1.out (Kd.C_below HR0_2.out HF.out.hb) HC0_2.out (Kd.C_below HR0_3.out HF.out.hb) HC0_3.out (Kd.C_below HR0_4.out HF.out.hb) HC0_4.out (Kd.R_reads' HG.out).2.2 (Kd.R_reads' HG.out).2.1 HBU.out).mono ?_); rintro e w5 ⟨v1, v2, v3, v4, v5, rfl, ho1, ho2, ho3, ho4, ho5, hb⟩; obtain ⟨AX, cX, rfl⟩ := Kd.R_slice ho1; obtain ⟨AG, cG, rfl⟩ := Kd.R_slice ho2; obtain ⟨AB, cB, rfl⟩ := Kd.R_slice ho3; obtain ⟨AD, cD, rfl⟩ := Kd.R_slice ho4; obtain ⟨AT, cT, rfl⟩ := Kd.R_slice ho5; have HF2 := M_ (HF.out.below hb); have h3 := M_ (Kd.R_mono (Kd.R_new' ho3 (Kd.R_lt HO.out)) (fun k hk => (⟨hk.2, hk.1.1⟩ : some k ≠ (Value.slice A7 S.length c7).ownBlock ∧ some k ≠ (Value.slice AD XD.length cD).ownBlock))); have h4 := M_ (Kd.R_mono (Kd.R_new' ho4 (Kd.R_lt HO.out)) (fun k hk => (⟨hk.2, hk.1.1⟩ : some k ≠ (Value.slice A7 S.length c7).ownBlock ∧ some k ≠ (Value.slice AB XB.length cB).ownBlock))); have h7 := M_ (Kd.R_mono (Kd.R_below (Kd.R_bound HO.out) hb) (fun k hk => (⟨fun e => by have := Kd.R_base ho3 k e.symm; have := hk.2.2.1; omega, fun e => by have := Kd.R_base ho4 k e.symm; have := hk.2.2.1; omega⟩ : some k ≠ (Value.slice AB XB.length cB).ownBlock ∧ some k ≠ (Value.slice AD XD.length cD).ownBlock))); have h1 := M_ ho1; have h2 := M_ ho2; (try clear ho1); (try clear ho2); (try clear ho3); (try clear ho4); (try clear ho5); (try clear hb))
    clear y0 y1 y2 y3 y4 HG HBU
    have hx := heap_alloc_new w5 (.cells #[.int .i64 x1, .slice AX XL.length cX, .slice AG XG.length cG, .slice AB XB.length cB, .slice AD XD.length cD] 26)
    have HL := M_ (Kd.R_alloc h1.out (.cells #[.int .i64 x1, .slice AX XL.length cX, .slice AG XG.length cG, .slice AB XB.length cB, .slice AD XD.length cD] 26))
    have HXG := M_ (Kd.R_alloc h2.out (.cells #[.int .i64 x1, .slice AX XL.length cX, .slice AG XG.length cG, .slice AB XB.length cB, .slice AD XD.length cD] 26))
    have HXB := M_ (Kd.R_mono (Kd.R_alloc h3.out (.cells #[.int .i64 x1, .slice AX XL.length cX, .slice AG XG.length cG, .slice AB XB.length cB, .slice AD XD.length cD] 26)) (fun k hk => (⟨hk, by simp [Value.ownBlock]⟩ : (some k ≠ (Value.slice A7 S.length c7).ownBlock ∧ some k ≠ (Value.slice AD XD.length cD).ownBlock) ∧ some k ≠ (Value.slice none 0 0).ownBlock)))
    have HXD := M_ (Kd.R_mono (Kd.R_alloc h4.out (.cells #[.int .i64 x1, .slice AX XL.length cX, .slice AG XG.length cG, .slice AB XB.length cB, .slice AD XD.length cD] 26)) (fun k hk => (⟨hk, by simp [Value.ownBlock]⟩ : (some k ≠ (Value.slice A7 S.length c7).ownBlock ∧ some k ≠ (Value.slice AB XB.length cB).ownBlock) ∧ some k ≠ (Value.slice none 0 0).ownBlock)))
    have HO6 := M_ (Kd.R_mono (Kd.R_alloc h7.out (.cells #[.int .i64 x1, .slice AX XL.length cX, .slice AG XG.length cG, .slice AB XB.length cB, .slice AD XD.length cD] 26)) (fun k hk => (⟨hk, by simp [Value.ownBlock]⟩ : (some k ≠ (Value.slice AB XB.length cB).ownBlock ∧ some k ≠ (Value.slice AD XD.length cD).ownBlock) ∧ some k ≠ (Value.slice none 0 0).ownBlock)))
    have HF6 := M_ (HF2.out.below (below_alloc (Below.refl _ w5) (.cells #[.int .i64 x1, .slice AX XL.length cX, .slice AG XG.length cG, .slice AB XB.length cB, .slice AD XD.length cD] 26)))
    have HWC := M_ HF.out.hb.size
    clear HF HO h1 h2 h3 h4 h7 HF2
    generalize w5.heap.size = bx at hx ⊢
    generalize w5.alloc (.cells #[.int .i64 x1, .slice AX XL.length cX, .slice AG XG.length cG, .slice AB XB.length cB, .slice AD XD.length cD] 26) = w6 at hx HL HXG HXB HXD HO6 HF6 ⊢
    have HX := M_ hx
    clear hx
    go_upto_block 6 with fail
    go_cut [10] (fun v10 wx => Aside0 (FB w wx #[.int .i64 a0_0, .slice A0_1 l0_1.length c0_1, .slice A0_2 l0_2.length c0_2, .slice A0_3 l0_3.length c0_3, .slice A0_4 l0_4.length c0_4]) ∧ Aside0 (wx.heap[bx]? = some (.cells #[.int .i64 x1, .slice AX XL.length cX, .slice AG XG.length cG, .slice AB XB.length cB, .slice AD XD.length cD] 26 (0, 0))) ∧ Aside0 (Kd.R k45 45 wx wc.heap.size (fun _ => True) (.slice AX XL.length cX) XL) ∧ Aside0 (Kd.R k55 55 wx wc.heap.size (fun _ => True) (.slice AG XG.length cG) XG) ∧ Aside0 (Kd.R (Kd.int .i64) 3 wx wc.heap.size (fun k => (some k ≠ (Value.slice A7 S.length c7).ownBlock ∧ some k ≠ (Value.slice AD XD.length cD).ownBlock) ∧ some k ≠ (v10 : Value).ownBlock) (.slice AB XB.length cB) XB) ∧ Aside0 (Kd.R (Kd.int .i64) 3 wx wc.heap.size (fun k => (some k ≠ (Value.slice A7 S.length c7).ownBlock ∧ some k ≠ (Value.slice AB XB.length cB).ownBlock) ∧ some k ≠ (v10 : Value).ownBlock) (.slice AD XD.length cD) XD) ∧ Aside0 (Kd.R (Kd.int .i64) 3 wx w.heap.size (fun k => (some k ≠ (Value.slice AB XB.length cB).ownBlock ∧ some k ≠ (Value.slice AD XD.length cD).ownBlock) ∧ some k ≠ (v10 : Value).ownBlock) (.slice A7 S.length c7) S) ∧ Aside0 (Kd.R (Kd.int .i64) 3 wx w.heap.size (fun _ => True) v10 (stayQ XL l0_1 S)))
    case first =>
     go_wp2
     go_loopg [10, 11] (S.length + 1) (fun kq v10 v11 w' => ∃ (j : Nat), v11 = .int .i64 (j : Int) ∧ Aside0 (j ≤ S.length ∧ kq + j = S.length + 1) ∧ Aside0 (FB w w' #[.int .i64 a0_0, .slice A0_1 l0_1.length c0_1, .slice A0_2 l0_2.length c0_2, .slice A0_3 l0_3.length c0_3, .slice A0_4 l0_4.length c0_4]) ∧ Aside0 (w'.heap[bx]? = some (.cells #[.int .i64 x1, .slice AX XL.length cX, .slice AG XG.length cG, .slice AB XB.length cB, .slice AD XD.length cD] 26 (0, 0))) ∧ Aside0 (Kd.R k45 45 w' wc.heap.size (fun _ => True) (.slice AX XL.length cX) XL) ∧ Aside0 (Kd.R k55 55 w' wc.heap.size (fun _ => True) (.slice AG XG.length cG) XG) ∧ Aside0 (Kd.R (Kd.int .i64) 3 w' wc.heap.size (fun k => (some k ≠ (Value.slice A7 S.length c7).ownBlock ∧ some k ≠ (Value.slice AD XD.length cD).ownBlock) ∧ some k ≠ (v10 : Value).ownBlock) (.slice AB XB.length cB) XB) ∧ Aside0 (Kd.R (Kd.int .i64) 3 w' wc.heap.size (fun k => (some k ≠ (Value.slice A7 S.length c7).ownBlock ∧ some k ≠ (Value.slice AB XB.length cB).ownBlock) ∧ some k ≠ (v10 : Value).ownBlock) (.slice AD XD.length cD) XD) ∧ Aside0 (Kd.R (Kd.int .i64) 3 w' w.heap.size (fun k => (some k ≠ (Value.slice AB XB.length cB).ownBlock ∧ some k ≠ (Value.slice AD XD.length cD).ownBlock) ∧ some k ≠ (v10 : Value).ownBlock) (.slice A7 S.length c7) S) ∧ Aside0 (Kd.R (Kd.int .i64) 3 w' w.heap.size (fun _ => True) v10 (stayQ XL l0_1 (S.take j))))
     case atStart => exact ⟨0, by simp, ⟨by omega, by omega⟩, HF6, HX, HL, HXG, HXB, HXD, HO6, ⟨Kd.R_nil _ _ _ _ _⟩⟩
     case round =>
      clear HF6 HX HL HXG HXB HXD HO6
      obtain ⟨j, rfl, HI, HF, HX, HL, HXG, HXB, HXD, HO, HQ⟩ := hrel
      by_cases c : j < S.length
      ·have cb : decide (j < S.length) = true := decide_eq_true c
       have HC := M_ c
       have p0 : (0 : Int) ≤ (j : Int) := by omega
       have p1 : (j : Int) < (S.length : Int) := by omega
       obtain ⟨ad, e7, hx0⟩ := Kd.at_int (Kd.R_reads' HO.out).2.2 (j : Int) p0 p1
       have er : rd S (j : Int) = S[j] := by simp [rd, List.getD, c]
       rw [Int.toNat_natCast, er] at hx0
       have hsx := HOK.out.2 S[j] (List.getElem_mem c)
       have hyes := stayQ_yes XL l0_1 S j c
       have hno := stayQ_no XL l0_1 S j c
       have hle := Nat.le_trans (stayQ_len XL l0_1 (S.take j)) (List.length_take_le j S)
       generalize S[j] = x at hx0 hsx hyes hno
       obtain ⟨ae, ea, hy0, hy1⟩ := at_T45 (Kd.C_below HR0_1.out HF.out.hb) x hsx.1.1 hsx.1.2
       obtain ⟨af, eb, hz0, hz1⟩ := at_T45 (Kd.R_reads' HL.out).2.2 x hsx.1.1 (by rw [HCL.out]; exact hsx.1.2)
       have q0 := eq_true hsx.1.1
       have q1 := eq_true hsx.1.2
       have q2 := eq_true (show x < (XL.length : Int) by rw [HCL.out]; exact hsx.1.2)
       have y1 := (blk_cell HF.out.hc 1).trans (show _ = some (.slice A0_1 l0_1.length c0_1) from rfl)
       have z1 := (blk_cell HX.out 1).trans (show _ = some (.slice AX XL.length cX) from rfl)
       subst e7
       subst ea
       subst eb
       generalize (rd_T45 l0_1 x).f1 = y at hy1 hyes hno
       generalize (rd_T45 XL x).f0 = z at hz0 hyes hno
       have HYES := M_ hyes
       have HNO2 := M_ hno
       have HLE := M_ hle
       have U5 := M_ (show wrap64 ((j : Int) + 1) = ((j + 1 : Nat) : Int) by have h1 := HOK.out.1; have h3 := HC.out; unfold wrap64; omega)
       clear hsx er hy0 hz1 hyes hno hle
       go_upto_region 17 with fail
       go_region
       have HF2 := M_ (HF.out.below (below_drew (Below.refl _ _)))
       have HX2 := M_ (blk_drew HX.out)
       have HL2 := M_ (Kd.R_drew HL.out)
       have HG2 := M_ (Kd.R_drew HXG.out)
       have HB2 := M_ (Kd.R_drew HXB.out)
       have HD2 := M_ (Kd.R_drew HXD.out)
       have HO2 := M_ (Kd.R_drew HO.out)
       have HQ2 := M_ (Kd.R_drew HQ.out)
       clear HF HX HL HXG HXB HXD HO HQ
       cases b2 : (z == y) with
       | false =>
        have e := HNO2.out b2
        go_wp2
        go_roundg (gk - 1)
        case rel => exact ⟨j + 1, congrArg (Value.int .i64) U5.out, ⟨by have := HC.out; omega, by have := HI.out; have := HC.out; omega⟩, HF2, HX2, HL2, HG2, HB2, HD2, HO2, ⟨by rw [e]; exact HQ2.out⟩⟩
        case measure => have := HI.out; have := HC.out; omega
       | true =>
        have HE := M_ (HYES.out b2)
        go_wp2_with ((with_reducible refine gate_builtin (b := .append) (xs := #[.tmp 88, .tmp 93]) rfl ?_); at_builtin; (try rw [alloc_drew_]); refine Kd.R_append (Kd.int .i64) (w0 := w) w.heap.size rfl (.tmp 88) (.tmp 93) 24 3 (.int .i64 0) 8 rfl Try.underlying24 info3 rfl (by decide) (by omega) u10 (stayQ XL l0_1 (S.take j)) x [.int .i64 x] (fun _ => True) (fun _ => False) rfl rfl ?aP (fun _ hk => hk.elim) ?aF ?aO ?aB ?aS ?aL ?_; (case aP => exact rfl); (case aB => exact HF2.out.hb); (case aF => exact (fun _ _ => trivial)); (case aO => exact HQ2.out); (case aS => exact below_size HF2.out.hb); (case aL => have h1 := HLE.out; have h2 := HOK.out.1; have h3 := HC.out; omega); intro vn wn ho hb hg hat; rw [← HE.out] at ho; have HQ3 := M_ ho; have HF3 := M_ (HF2.out.over HQ2.out hg); have HX3 := M_ (blk_grown HX2.out hg (Kd.R_ne HQ2.out HX2.out (by decide))); have HL3 := M_ (Kd.R_over HL2.out HQ2.out (by decide) hg); have HG3 := M_ (Kd.R_over HG2.out HQ2.out (by decide) hg); have HB3 := M_ (Kd.R_after HB2.out hg hat); have HD3 := M_ (Kd.R_after HD2.out hg hat); have HO3 := M_ (Kd.R_after HO2.out hg hat); (try clear ho); (try clear hb); (try clear hat); (try clear hg))
        go_roundg (gk - 1)
        case rel => exact ⟨j + 1, congrArg (Value.int .i64) U5.out, ⟨by have := HC.out; omega, by have := HI.out; have := HC.out; omega⟩, HF3, HX3, HL3, HG3, HB3, HD3, HO3, HQ3⟩
        case measure => have := HI.out; have := HC.out; omega
      ·have cb : decide (j < S.length) = false := decide_eq_false c
       have ej : j = S.length := by have := HI.out; omega
       subst ej
       go_wp2
       go_meet
       exact ⟨HF, HX, HL, HXG, HXB, HXD, HO, ⟨by have := HQ.out; rw [List.take_length] at this; exact this⟩⟩
    case rest =>
     obtain ⟨HF7, HX7, HL7, HXG7, HXB7, HXD7, HO7, HQ7⟩ := hcut
     clear HF6 HX HL HXG HXB HXD HO6
     obtain ⟨A8, c8, rfl⟩ := Kd.R_slice HQ7.out
     have hfk := HFK2.out
     clear HFK2
     generalize stayQ XL l0_1 S = S2 at HQ7 hfk ⊢
     by_cases cq : S2.length = S.length
     ·rw [if_pos cq] at hfk
      simp only [Option.some.injEq, Prod.mk.injEq] at hfk
      obtain ⟨rfl, rfl, rfl, rfl, rfl, rfl⟩ := hfk
      have c1 : ((S2.length : Int) == (S.length : Int)) = true := beq_iff_eq.mpr (by omega)
      have c2 : (S2.length == S.length) = true := beq_iff_eq.mpr cq
      have c3 : decide (S2.length = S.length) = true := decide_eq_true cq
      clear cq
      have y0 := (blk_cell HX7.out 0).trans (show _ = some (.int .i64 x1) from rfl)
      have y1 := (blk_cell HX7.out 1).trans (show _ = some (.slice AX XL.length cX) from rfl)
      have y2 := (blk_cell HX7.out 2).trans (show _ = some (.slice AG XG.length cG) from rfl)
      have y3 := (blk_cell HX7.out 3).trans (show _ = some (.slice AB XB.length cB) from rfl)
      have y4 := (blk_cell HX7.out 4).trans (show _ = some (.slice AD XD.length cD) from rfl)
      have z0 := (blk_cell HF7.out.hz 0).trans (show _ = some (.int .i64 0) from rfl)
      have z1 := (blk_cell HF7.out.hz 1).trans (show _ = some (.slice none 0 0) from rfl)
      have z2 := (blk_cell HF7.out.hz 2).trans (show _ = some (.slice none 0 0) from rfl)
      have z3 := (blk_cell HF7.out.hz 3).trans (show _ = some (.slice none 0 0) from rfl)
      have z4 := (blk_cell HF7.out.hz 4).trans (show _ = some (.slice none 0 0) from rfl)
      have frb0 := blk_frozen HF7.out.hz 0
      have frb1 := blk_frozen HF7.out.hz 1
      have frb2 := blk_frozen HF7.out.hz 2
      have frb3 := blk_frozen HF7.out.hz 3
      have frb4 := blk_frozen HF7.out.hz 4
      go_wp2
      go_region
      all_goals (
       go_wp2
       (try simp only [Exit.inBlock, Exit.then]); refine bodyPost_ret (results_list (rs := [.tmp 2, .cell 3 26]) rfl (by simp) (.tmp (.cell (w.heap.size + 1) 26 #[.int .i64 x1, .slice AX XL.length cX, .slice AG XG.length cG, .slice AB XB.length cB, .slice AD XD.length cD] (0, 0) _ rfl (blk_drew (put5_blk _ _ _ _ _ HF7.out.hz)) Try.underlying26 rfl (by kernel_rfl) .nil))) rfl ?_
       exact ⟨_, _, _, _, _, rfl, Kd.R_drew (Kd.R_mono (put5_R _ _ _ _ _ HF7.out.hz HO7.out (by decide)) (fun _ hk => hk.1)), Kd.R_drew (Kd.R_lower (put5_R _ _ _ _ _ HF7.out.hz HL7.out (by decide)) HWC.out), Kd.R_drew (Kd.R_lower (put5_R _ _ _ _ _ HF7.out.hz HXG7.out (by decide)) HWC.out), Kd.R_drew (Kd.R_mono (Kd.R_lower (put5_R _ _ _ _ _ HF7.out.hz HXB7.out (by decide)) HWC.out) (fun k hk => hk.1)), Kd.R_drew (Kd.R_mono (Kd.R_lower (put5_R _ _ _ _ _ HF7.out.hz HXD7.out (by decide)) HWC.out) (fun k hk => hk.1)), below_drew (put5_below _ _ _ _ _ HF7.out.hb (Nat.le_succ _))⟩)
     ·rw [if_neg cq] at hfk
      have c1 : ((S2.length : Int) == (S.length : Int)) = false := beq_eq_false_iff_ne.mpr (by omega)
      have c2 : (S2.length == S.length) = false := beq_eq_false_iff_ne.mpr cq
      have c3 : decide (S2.length = S.length) = false := decide_eq_false cq
      have HFK3 := M_ hfk
      clear cq hfk
      go_wp2
      go_roundg k1
      case measure => have := HK.out; omega
      case rel => exact ⟨S2, HFK3, ⟨by have := HK.out; omega⟩, HF7, HQ7⟩

def spiritlevelref27_Stay.f (k : Nat) (a0_0 : Int) (l0_1 : List (S45)) (l0_2 : List (S55)) (l0_3 : List Int) (l0_4 : List Int) : Option (List Int × Int) := (spiritlevelref02_Check.f k a0_0 l0_1 l0_2 l0_3 l0_4).bind fun t204 => (if t204 = 0 then ((spiritlevelref27_Stays.f k a0_0 l0_1 l0_2 l0_3 l0_4).bind fun bt205 => (some (bt205.1, 0))) else (some (([] : List Int), t204)))
set_option maxHeartbeats 8000000 in
set_option maxRecDepth 100000 in
theorem spiritlevelref27_Stay.calls (k : Nat) (a0_0 : Int) (A0_1 : Option Addr) (c0_1 : Nat) (l0_1 : List (S45)) (A0_2 : Option Addr) (c0_2 : Nat) (l0_2 : List (S55)) (A0_3 : Option Addr) (c0_3 : Nat) (l0_3 : List Int) (A0_4 : Option Addr) (c0_4 : Nat) (l0_4 : List Int) (r1 : List Int) (r2 : Int) (w : World) (hr0_1 : Kd.C k45 w A0_1 l0_1.length l0_1) (hc0_1 : l0_1.length ≤ c0_1) (hr0_2 : Kd.C k55 w A0_2 l0_2.length l0_2) (hc0_2 : l0_2.length ≤ c0_2) (hr0_3 : Kd.C (Kd.int .i64) w A0_3 l0_3.length l0_3) (hc0_3 : l0_3.length ≤ c0_3) (hr0_4 : Kd.C (Kd.int .i64) w A0_4 l0_4.length l0_4) (hc0_4 : l0_4.length ≤ c0_4) (h : spiritlevelref27_Stay.f k a0_0 l0_1 l0_2 l0_3 l0_4 = some (r1, r2)) :
  Calls Try.prog 17 #[.agg #[.int .i64 a0_0, .slice A0_1 l0_1.length c0_1, .slice A0_2 l0_2.length c0_2, .slice A0_3 l0_3.length c0_3, .slice A0_4 l0_4.length c0_4]] w fun e w' => ∃ v0_ : Value, e = .returned (.tuple #[v0_, .int .i64 r2]) ∧ Kd.R (Kd.int .i64) 3 w' w.heap.size (fun _ => True) v0_ r1 ∧ Below w.heap.size w w' := by
 have hu26 := Try.underlying26
 have HR0_1 := M_ hr0_1
 have HC0_1 := M_ hc0_1
 clear hr0_1 hc0_1
 have HR0_2 := M_ hr0_2
 have HC0_2 := M_ hc0_2
 clear hr0_2 hc0_2
 have HR0_3 := M_ hr0_3
 have HC0_3 := M_ hc0_3
 clear hr0_3 hc0_3
 have HR0_4 := M_ hr0_4
 have HC0_4 := M_ hc0_4
 clear hr0_4 hc0_4
 have HB := M_ (Below.refl w.heap.size w)
 have H : ((spiritlevelref02_Check.f k a0_0 l0_1 l0_2 l0_3 l0_4).bind fun t204 => (if t204 = 0 then ((spiritlevelref27_Stays.f k a0_0 l0_1 l0_2 l0_3 l0_4).bind fun bt205 => (some (bt205.1, 0))) else (some (([] : List Int), t204)))) = some (r1, r2) := h
 clear h
 replace H := Option.bind_eq_some_iff.mp H
 obtain ⟨t204, A20, H⟩ := H
 replace H : (if t204 = 0 then ((spiritlevelref27_Stays.f k a0_0 l0_1 l0_2 l0_3 l0_4).bind fun bt205 => (some (bt205.1, 0))) else (some (([] : List Int), t204))) = some (r1, r2) := H
 have A2 := M_ A20
 clear A20
 by_cases c3 : t204 = 0
 ·rw [if_pos c3] at H
  have c3b0 : (t204 == 0) = true := beq_iff_eq.mpr c3
  have c3b1 : (t204 != 0) = false := bne_eq_false_iff_eq.mpr c3
  clear c3
  replace H := Option.bind_eq_some_iff.mp H
  obtain ⟨⟨t205, t208, t209, t212, t215, t218⟩, A40, H⟩ := H
  replace H : (some (t205, 0)) = some (r1, r2) := H
  have A4 := M_ A40
  clear A40
  simp only [Option.some.injEq, Prod.mk.injEq] at H
  obtain ⟨rfl, rfl⟩ := H
  go_enter Try.func17, Try.ntmps17
  go_wp2_with (first | ((with_reducible refine gate_dst (N := 1) rfl ?_); refine box_event ?hg (N := 1) ?hd (cs := #[.int .i64 a0_0, .slice A0_1 l0_1.length c0_1, .slice A0_2 l0_2.length c0_2, .slice A0_3 l0_3.length c0_3, .slice A0_4 l0_4.length c0_4]) (t := 26) ?hr ?_; (case hd => rfl); (case hg => rfl); (case hr => first | (go_simp; done) | (go_simp; rfl)); intro gb203 hg w5 hbox hb; have n1_ := M_ (hbox); have n2_ := M_ ((by rw [hg]; exact (below_size (wl_ HB.out)) : w.heap.size ≤ gb203)); have n3_ := M_ ((by rw [hg]; exact (below_size (wl_ HB.out)) : w.heap.size ≤ gb203)); replace HB := wb_ HB hb; have BK203 := n1_; have GW203 := n2_; have GE203 := n3_; have gi203 : Ge _ _ := ⟨GE203.out⟩; clear n1_ n2_ n3_; clear hb hbox hg; obtain ⟨hcz6_0, hcz6_1, hcz6_2, hcz6_3, hcz6_4⟩ := cz5_ BK203.out; have hfz6_0 := blk_frozen BK203.out 0; have hfz6_1 := blk_frozen BK203.out 1; have hfz6_2 := blk_frozen BK203.out 2; have hfz6_3 := blk_frozen BK203.out 3; have hfz6_4 := blk_frozen BK203.out 4) | ((with_reducible refine gate_callee (f := 10) rfl ?_); refine goesL_ (some 8) rfl rfl Try.func10 (by kernel_rfl) rfl #[.agg #[.int .i64 a0_0, .slice A0_1 l0_1.length c0_1, .slice A0_2 l0_2.length c0_2, .slice A0_3 l0_3.length c0_3, .slice A0_4 l0_4.length c0_4]] rfl (by (try simp only [List.map_toArray, List.map_cons, List.map_nil]); first | done | rfl) ?_; (with_reducible refine (spiritlevelref02_Check.calls k a0_0 _ _ l0_1 _ _ l0_2 _ _ l0_3 _ _ l0_4 t204 _ ?side1 ?side2 ?side3 ?side4 ?side5 ?side6 ?side7 ?side8 A2.out).mono ?_); (case side1 => exact cl_ (Kd.C_below HR0_1.out HB.out)); (case side2 => exact HC0_1.out); (case side3 => exact cl_ (Kd.C_below HR0_2.out HB.out)); (case side4 => exact HC0_2.out); (case side5 => exact cl_ (Kd.C_below HR0_3.out HB.out)); (case side6 => exact HC0_3.out); (case side7 => exact cl_ (Kd.C_below HR0_4.out HB.out)); (case side8 => exact HC0_4.out); rintro e w7 ⟨rfl, hb⟩; refine ⟨_, rfl, ?_⟩; replace BK203 := bb_ BK203 hb; replace HB := wb_ HB hb; (try clear hb); (try clear hb2); (try clear hk); (try clear hi); obtain ⟨hcz8_0, hcz8_1, hcz8_2, hcz8_3, hcz8_4⟩ := cz5_ BK203.out; have hfz8_0 := blk_frozen BK203.out 0; have hfz8_1 := blk_frozen BK203.out 1; have hfz8_2 := blk_frozen BK203.out 2; have hfz8_3 := blk_frozen BK203.out 3; have hfz8_4 := blk_frozen BK203.out 4) | ((with_reducible refine gate_callee (f := 45) rfl ?_); refine goesL_ (some 14) rfl rfl Try.func45 (by kernel_rfl) rfl #[.agg #[.int .i64 a0_0, .slice A0_1 l0_1.length c0_1, .slice A0_2 l0_2.length c0_2, .slice A0_3 l0_3.length c0_3, .slice A0_4 l0_4.length c0_4]] rfl (by (try simp only [List.map_toArray, List.map_cons, List.map_nil]); first | done | rfl) ?_; (with_reducible refine (spiritlevelref27_Stays.calls k a0_0 _ _ l0_1 _ _ l0_2 _ _ l0_3 _ _ l0_4 t205 t208 t209 t212 t215 t218 _ ?side1 ?side2 ?side3 ?side4 ?side5 ?side6 ?side7 ?side8 A4.out).mono ?_); (case side1 => exact cl_ (Kd.C_below HR0_1.out HB.out)); (case side2 => exact HC0_1.out); (case side3 => exact cl_ (Kd.C_below HR0_2.out HB.out)); (case side4 => exact HC0_2.out); (case side5 => exact cl_ (Kd.C_below HR0_3.out HB.out)); (case side6 => exact HC0_3.out); (case side7 => exact cl_ (Kd.C_below HR0_4.out HB.out)); (case side8 => exact HC0_4.out); rintro e w9 ⟨v206, v210, v213, v216, v219, rfl, ho0, ho1, ho2, ho3, ho4, hb⟩; refine ⟨_, rfl, ?_⟩; have n0_ := M_ (Kd.R_lower ho0 (below_size (ws_ HB.out))); have n1_ := M_ (Kd.R_lower ho1 (below_size (ws_ HB.out))); have n2_ := M_ (Kd.R_lower ho2 (below_size (ws_ HB.out))); have n3_ := M_ (Kd.R_lower ho3 (below_size (ws_ HB.out))); have n4_ := M_ (Kd.R_lower ho4 (below_size (ws_ HB.out))); have HO207 := n0_; have HO211 := n1_; have HO214 := n2_; have HO217 := n3_; have HO220 := n4_; replace BK203 := bb_ BK203 hb; replace HB := wb_ HB hb; clear n0_ n1_ n2_ n3_ n4_; (try clear hb); (try clear hb2); (try clear hk); (try clear hi); (try clear ho0); (try clear ho1); (try clear ho2); (try clear ho3); (try clear ho4)) | ((with_reducible refine gate_dst (N := 6) rfl ?_); refine box_event ?hg (N := 6) ?hd (cs := #[.int .i64 0, .slice none 0 0, .slice none 0 0, .slice none 0 0, .slice none 0 0]) (t := 26) ?hr ?_; (case hd => rfl); (case hg => rfl); (case hr => first | (go_simp; done) | (go_simp; rfl)); intro gb221 hg w10 hbox hb; have n7_ := M_ (hbox); have n8_ := M_ ((by rw [hg]; exact (below_size (ws_ HB.out)) : w.heap.size ≤ gb221)); have n9_ := M_ ((by rw [hg]; exact (below_size (ws_ HB.out)) : w.heap.size ≤ gb221)); have n10_ := M_ ((by rw [hg]; exact Nat.ne_of_lt (blk_lt (bl_ BK203.out)) : gb203 ≠ gb221)); have n11_ := M_ ((by rw [hg]; exact Nat.ne_of_gt (blk_lt (bl_ BK203.out)) : gb221 ≠ gb203)); replace HO207 := rb_ HO207 hb; replace HO211 := rb_ HO211 hb; replace HO214 := rb_ HO214 hb; replace HO217 := rb_ HO217 hb; replace HO220 := rb_ HO220 hb; replace BK203 := bb_ BK203 hb; replace HB := wb_ HB hb; have BK221 := n7_; have GW221 := n8_; have GE221 := n9_; have gi221 : Ge _ _ := ⟨GE221.out⟩; have NB203_221 := n10_; have NB221_203 := n11_; clear n7_ n8_ n9_ n10_ n11_; clear hb hbox hg; have hnb11 := NB221_203.out; have hnc11 := NB203_221.out; obtain ⟨hcz12_0, hcz12_1, hcz12_2, hcz12_3, hcz12_4⟩ := cz5_ BK221.out; obtain ⟨hfz12_0, hfz12_1, hfz12_2, hfz12_3, hfz12_4⟩ := fz5_ BK221.out; obtain ⟨Ao13, co13, eo13⟩ := Kd.R_slice HO211.out; subst eo13; obtain ⟨Ao14, co14, eo14⟩ := Kd.R_slice HO214.out; subst eo14; obtain ⟨Ao15, co15, eo15⟩ := Kd.R_slice HO217.out; subst eo15; obtain ⟨Ao16, co16, eo16⟩ := Kd.R_slice HO220.out; subst eo16))
  go_ret2
  exact ⟨_, by first | rfl | (simp [errW_none, errW_some] <;> rfl) | (simp [*, errW_none, errW_some] <;> rfl), by (with_reducible repeat (first | apply a0_ | apply a1_ | apply a2_)); exact Kd.R_mono (Kd.R_far (p := ⟨gb221, 4, none⟩) (Kd.R_far (p := ⟨gb221, 3, none⟩) (Kd.R_far (p := ⟨gb221, 2, none⟩) (Kd.R_far (p := ⟨gb221, 1, none⟩) (Kd.R_far (p := ⟨gb221, 0, none⟩) (Kd.R_types HO207.out BK221.out (by decide)) (fun _ hk => hk.2) (.int .i64 t208)) (fun _ hk => hk.2) (.slice Ao13 t209.length co13)) (fun _ hk => hk.2) (.slice Ao14 t212.length co14)) (fun _ hk => hk.2) (.slice Ao15 t215.length co15)) (fun _ hk => hk.2) (.slice Ao16 t218.length co16)) (fun _ hk => trivial), by repeat (first | (with_reducible first | exact HB.out | apply b0_ | apply b1_ | apply b2_ | refine below_set ?_ GE203.out | refine below_set ?_ GE221.out) | exact HB.out)⟩
 ·rw [if_neg c3] at H
  have c3b0 : (t204 == 0) = false := beq_eq_false_iff_ne.mpr c3
  have c3b1 : (t204 != 0) = true := bne_iff_ne.mpr c3
  simp only [Option.some.injEq, Prod.mk.injEq] at H
  obtain ⟨rfl, rfl⟩ := H
  go_enter Try.func17, Try.ntmps17
  go_wp2_with (first | ((with_reducible refine gate_dst (N := 1) rfl ?_); refine box_event ?hg (N := 1) ?hd (cs := #[.int .i64 a0_0, .slice A0_1 l0_1.length c0_1, .slice A0_2 l0_2.length c0_2, .slice A0_3 l0_3.length c0_3, .slice A0_4 l0_4.length c0_4]) (t := 26) ?hr ?_; (case hd => rfl); (case hg => rfl); (case hr => first | (go_simp; done) | (go_simp; rfl)); intro gb203 hg w17 hbox hb; have n1_ := M_ (hbox); have n2_ := M_ ((by rw [hg]; exact (below_size (wl_ HB.out)) : w.heap.size ≤ gb203)); have n3_ := M_ ((by rw [hg]; exact (below_size (wl_ HB.out)) : w.heap.size ≤ gb203)); replace HB := wb_ HB hb; have BK203 := n1_; have GW203 := n2_; have GE203 := n3_; have gi203 : Ge _ _ := ⟨GE203.out⟩; clear n1_ n2_ n3_; clear hb hbox hg; obtain ⟨hcz18_0, hcz18_1, hcz18_2, hcz18_3, hcz18_4⟩ := cz5_ BK203.out; have hfz18_0 := blk_frozen BK203.out 0; have hfz18_1 := blk_frozen BK203.out 1; have hfz18_2 := blk_frozen BK203.out 2; have hfz18_3 := blk_frozen BK203.out 3; have hfz18_4 := blk_frozen BK203.out 4) | ((with_reducible refine gate_callee (f := 10) rfl ?_); refine goesL_ (some 8) rfl rfl Try.func10 (by kernel_rfl) rfl #[.agg #[.int .i64 a0_0, .slice A0_1 l0_1.length c0_1, .slice A0_2 l0_2.length c0_2, .slice A0_3 l0_3.length c0_3, .slice A0_4 l0_4.length c0_4]] rfl (by (try simp only [List.map_toArray, List.map_cons, List.map_nil]); first | done | rfl) ?_; (with_reducible refine (spiritlevelref02_Check.calls k a0_0 _ _ l0_1 _ _ l0_2 _ _ l0_3 _ _ l0_4 t204 _ ?side1 ?side2 ?side3 ?side4 ?side5 ?side6 ?side7 ?side8 A2.out).mono ?_); (case side1 => exact cl_ (Kd.C_below HR0_1.out HB.out)); (case side2 => exact HC0_1.out); (case side3 => exact cl_ (Kd.C_below HR0_2.out HB.out)); (case side4 => exact HC0_2.out); (case side5 => exact cl_ (Kd.C_below HR0_3.out HB.out)); (case side6 => exact HC0_3.out); (case side7 => exact cl_ (Kd.C_below HR0_4.out HB.out)); (case side8 => exact HC0_4.out); rintro e w19 ⟨rfl, hb⟩; refine ⟨_, rfl, ?_⟩; replace BK203 := bb_ BK203 hb; replace HB := wb_ HB hb; (try clear hb); (try clear hb2); (try clear hk); (try clear hi)))
  go_ret2
  exact ⟨_, by first | rfl | (simp [errW_none, errW_some] <;> rfl) | (simp [*, errW_none, errW_some] <;> rfl), by first | exact Kd.R_nil _ _ _ _ _ | exact Kd.N_nil _ _ _ _ _ | exact Kd.V_nil _ _ _ _ _ | exact Kd.Q_nil _ _ _ _ _ | exact Kd.S_nil _ _ _ _ _, by repeat (first | (with_reducible first | exact HB.out | apply b0_ | apply b1_ | apply b2_ | refine below_set ?_ GE203.out) | exact HB.out)⟩

def spiritlevelref25_True.f  : Option ((List (S55)) × Int) := some (([] : List (S55)), 1)
set_option maxHeartbeats 8000000 in
set_option maxRecDepth 100000 in
theorem spiritlevelref25_True.calls  (r1 : List (S55)) (r2 : Int) (w : World) (h : spiritlevelref25_True.f  = some (r1, r2)) :
  Calls Try.prog 72 #[] w fun e w' => ∃ v0_ : Value, e = .returned (.agg #[v0_, .int .i64 r2]) ∧ Kd.R k55 55 w' w.heap.size (fun _ => True) v0_ r1 ∧ Below w.heap.size w w' := by
 have hu35 := Try.underlying35
 have HB := M_ (Below.refl w.heap.size w)
 have H : (some (([] : List (S55)), 1)) = some (r1, r2) := h
 clear h
 simp only [Option.some.injEq, Prod.mk.injEq] at H
 obtain ⟨rfl, rfl⟩ := H
 go_enter Try.func72, Try.ntmps72
 go_wp2_with (first | ((with_reducible refine gate_dst (N := 0) rfl ?_); refine box_event ?hg (N := 0) ?hd (cs := #[.slice none 0 0, .int .i64 0]) (t := 35) ?hr ?_; (case hd => rfl); (case hg => rfl); (case hr => first | (go_simp; done) | (go_simp; rfl)); intro gb222 hg w1 hbox hb; have n1_ := M_ (hbox); have n2_ := M_ ((by rw [hg]; exact (below_size (wl_ HB.out)) : w.heap.size ≤ gb222)); have n3_ := M_ ((by rw [hg]; exact (below_size (wl_ HB.out)) : w.heap.size ≤ gb222)); replace HB := wb_ HB hb; have BK222 := n1_; have GW222 := n2_; have GE222 := n3_; have gi222 : Ge _ _ := ⟨GE222.out⟩; clear n1_ n2_ n3_; clear hb hbox hg; obtain ⟨hcz2_0, hcz2_1⟩ := cz2_ BK222.out; have hfz2_0 := blk_frozen BK222.out 0; have hfz2_1 := blk_frozen BK222.out 1))
 refine bodyPost_ret (results_cell_row rfl _ _ gb222 35 #[.slice none 0 0, .int .i64 1] (0, 0) _ rfl (by (with_reducible repeat (first | refine k0_ ?_ _ | refine k1_ ?_ | refine k2_ ?_ _)); refine blk_put (cs := #[.slice none 0 0, .int .i64 0]) ?_ 1 _ rfl; refine blk_put (cs := #[.slice none 0 0, .int .i64 0]) ?_ 0 _ rfl; (with_reducible repeat (first | refine k0_ ?_ _ | refine k1_ ?_ | refine k2_ ?_ _)); exact BK222.out) Try.underlying35 rfl (by kernel_rfl)) rfl ?_
 exact ⟨_, by first | rfl | (simp [errW_none, errW_some] <;> rfl) | (simp [*, errW_none, errW_some] <;> rfl), by first | exact Kd.R_nil _ _ _ _ _ | exact Kd.N_nil _ _ _ _ _ | exact Kd.V_nil _ _ _ _ _ | exact Kd.Q_nil _ _ _ _ _ | exact Kd.S_nil _ _ _ _ _, by repeat (first | (with_reducible first | exact HB.out | apply b0_ | apply b1_ | apply b2_ | refine below_set ?_ GE222.out) | exact HB.out)⟩

def spiritlevelref25_Latch.f (a0_0 : Int) (l0_1 : List (S45)) (l0_2 : List (S55)) (l0_3 : List Int) (l0_4 : List Int) (a1 : Int) : Option (Int) := some (wrap64 (2 * (wrap64 ((wrap64 (a0_0 + 1)) + a1))))
set_option maxHeartbeats 8000000 in
set_option maxRecDepth 100000 in
theorem spiritlevelref25_Latch.calls (a0_0 : Int) (A0_1 : Option Addr) (c0_1 : Nat) (l0_1 : List (S45)) (A0_2 : Option Addr) (c0_2 : Nat) (l0_2 : List (S55)) (A0_3 : Option Addr) (c0_3 : Nat) (l0_3 : List Int) (A0_4 : Option Addr) (c0_4 : Nat) (l0_4 : List Int) (a1 : Int) (r : Int) (w : World) (hr0_1 : Kd.C k45 w A0_1 l0_1.length l0_1) (hc0_1 : l0_1.length ≤ c0_1) (hr0_2 : Kd.C k55 w A0_2 l0_2.length l0_2) (hc0_2 : l0_2.length ≤ c0_2) (hr0_3 : Kd.C (Kd.int .i64) w A0_3 l0_3.length l0_3) (hc0_3 : l0_3.length ≤ c0_3) (hr0_4 : Kd.C (Kd.int .i64) w A0_4 l0_4.length l0_4) (hc0_4 : l0_4.length ≤ c0_4) (h : spiritlevelref25_Latch.f a0_0 l0_1 l0_2 l0_3 l0_4 a1 = some r) :
  Calls Try.prog 73 #[.agg #[.int .i64 a0_0, .slice A0_1 l0_1.length c0_1, .slice A0_2 l0_2.length c0_2, .slice A0_3 l0_3.length c0_3, .slice A0_4 l0_4.length c0_4], .int .i64 a1] w fun e w' => e = .returned (.int .i64 r) ∧ Below w.heap.size w w' := by
 have hu26 := Try.underlying26
 have HR0_1 := M_ hr0_1
 have HC0_1 := M_ hc0_1
 clear hr0_1 hc0_1
 have HR0_2 := M_ hr0_2
 have HC0_2 := M_ hc0_2
 clear hr0_2 hc0_2
 have HR0_3 := M_ hr0_3
 have HC0_3 := M_ hc0_3
 clear hr0_3 hc0_3
 have HR0_4 := M_ hr0_4
 have HC0_4 := M_ hc0_4
 clear hr0_4 hc0_4
 have HB := M_ (Below.refl w.heap.size w)
 have H : (some (wrap64 (2 * (wrap64 ((wrap64 (a0_0 + 1)) + a1))))) = some r := h
 clear h
 obtain rfl := Option.some.inj H
 go_enter Try.func73, Try.ntmps73
 go_wp2_with (first | ((with_reducible refine gate_dst (N := 2) rfl ?_); refine box_event ?hg (N := 2) ?hd (cs := #[.int .i64 a0_0, .slice A0_1 l0_1.length c0_1, .slice A0_2 l0_2.length c0_2, .slice A0_3 l0_3.length c0_3, .slice A0_4 l0_4.length c0_4]) (t := 26) ?hr ?_; (case hd => rfl); (case hg => rfl); (case hr => first | (go_simp; done) | (go_simp; rfl)); intro gb223 hg w3 hbox hb; have n1_ := M_ (hbox); have n2_ := M_ ((by rw [hg]; exact (below_size (wl_ HB.out)) : w.heap.size ≤ gb223)); have n3_ := M_ ((by rw [hg]; exact (below_size (wl_ HB.out)) : w.heap.size ≤ gb223)); replace HB := wb_ HB hb; have BK223 := n1_; have GW223 := n2_; have GE223 := n3_; have gi223 : Ge _ _ := ⟨GE223.out⟩; clear n1_ n2_ n3_; clear hb hbox hg; obtain ⟨hcz4_0, hcz4_1, hcz4_2, hcz4_3, hcz4_4⟩ := cz5_ BK223.out; have hfz4_0 := blk_frozen BK223.out 0; have hfz4_1 := blk_frozen BK223.out 1; have hfz4_2 := blk_frozen BK223.out 2; have hfz4_3 := blk_frozen BK223.out 3; have hfz4_4 := blk_frozen BK223.out 4))
 go_ret
 exact ⟨by first | rfl | (simp [errW_none, errW_some] <;> rfl) | (simp [*, errW_none, errW_some] <;> rfl), by repeat (first | (with_reducible first | exact HB.out | apply b0_ | apply b1_ | apply b2_ | refine below_set ?_ GE223.out) | exact HB.out)⟩

end Go.Proofs.Ytlgoniocoifjjaa.QConstantsPasses
