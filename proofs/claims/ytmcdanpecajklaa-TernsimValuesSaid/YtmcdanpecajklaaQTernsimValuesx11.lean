-- Made by wip/myprint.sh (a patched print): a text of this session's own.
import Derived.Test.YtmcdanpecajklaaQTernsimValuesx0
import Derived.Test.YtmcdanpecajklaaQTernsimValuesx3
import Derived.Test.YtmcdanpecajklaaQTernsimValuesx5
import Derived.Test.YtmcdanpecajklaaQTernsimValuesx6
import Derived.Test.YtmcdanpecajklaaQTernsimValuesx8
import Derived.Test.YtmcdanpecajklaaQTernsimValuesx9
import Derived.Test.YtmcdanpecajklaaQTernsimValuesx10
namespace Go.Proofs.Ytmcdanpecajklaa.QTernsimValues
open Go.RowKit Go.Proofs.YtmcdanpecajklaaW.PrintWords Go.Proofs.YtmcdanpecajklaaW.PrintLast Go.Proofs.YtmcdanpecajklaaW.PrintMore
attribute [local go_sem] max2_int min2_int max_two min_two max_three min_three max_four min_four
set_option linter.unusedVariables false
set_option linter.unusedSimpArgs false

-- gates_Vars.f
-- lift_Identity.f
-- ternsim_States.f
-- ternsim_given.f
-- ternsim_fact.f
-- preds_Check.f
-- hash_Build.f
-- slices_Max_int_int.f
-- slices_Repeat_int_int.f
-- slices_Clone_int_int.f
structure PZ (W : World) (B : Nat) (A1 : Option Addr) (c1 : Nat) (X1 : List S36) (A2 : Option Addr) (c2 : Nat) (X2 : List S69) (A3 : Option Addr) (c3 : Nat) (X3 : List Int) (A4 : Option Addr) (c4 : Nat) (X4 : List Int) (A7 : Option Addr) (c7 : Nat) (X7 : List Int) (A8 : Option Addr) (c8 : Nat) (X8 : List (List Int)) (A9 : Option Addr) (c9 : Nat) (X9 : List Int) (AA : Option Addr) (cA : Nat) (XA : List S69) : Prop where
 r1 : Kd.R k36 36 W B (fun _ => True) (.slice A1 X1.length c1) X1
 r2 : Kd.R k69 69 W B (fun k_ => some k_ ≠ (Value.slice AA XA.length cA).ownBlock) (.slice A2 X2.length c2) X2
 r3 : Kd.R (Kd.int .i64) 3 W B (fun k_ => some k_ ≠ (Value.slice A4 X4.length c4).ownBlock ∧ some k_ ≠ (Value.slice A7 X7.length c7).ownBlock ∧ some k_ ≠ (Value.slice A9 X9.length c9).ownBlock) (.slice A3 X3.length c3) X3
 r4 : Kd.R (Kd.int .i64) 3 W B (fun k_ => some k_ ≠ (Value.slice A3 X3.length c3).ownBlock ∧ some k_ ≠ (Value.slice A7 X7.length c7).ownBlock ∧ some k_ ≠ (Value.slice A9 X9.length c9).ownBlock) (.slice A4 X4.length c4) X4
 r7 : Kd.R (Kd.int .i64) 3 W B (fun k_ => some k_ ≠ (Value.slice A3 X3.length c3).ownBlock ∧ some k_ ≠ (Value.slice A4 X4.length c4).ownBlock ∧ some k_ ≠ (Value.slice A9 X9.length c9).ownBlock) (.slice A7 X7.length c7) X7
 r8 : Kd.S (Kd.slice 3 (Kd.int .i64)) 24 W B (fun k_ => some k_ ≠ (Value.slice A3 X3.length c3).ownBlock ∧ some k_ ≠ (Value.slice A4 X4.length c4).ownBlock ∧ some k_ ≠ (Value.slice A7 X7.length c7).ownBlock ∧ some k_ ≠ (Value.slice A9 X9.length c9).ownBlock) (.slice A8 X8.length c8) X8
 r9 : Kd.R (Kd.int .i64) 3 W B (fun k_ => some k_ ≠ (Value.slice A3 X3.length c3).ownBlock ∧ some k_ ≠ (Value.slice A4 X4.length c4).ownBlock ∧ some k_ ≠ (Value.slice A7 X7.length c7).ownBlock) (.slice A9 X9.length c9) X9
 rA : Kd.R k69 69 W B (fun k_ => some k_ ≠ (Value.slice A2 X2.length c2).ownBlock) (.slice AA XA.length cA) XA
theorem PZ.set {W : World} {B : Nat} {A1 : Option Addr} {c1 : Nat} {X1 : List S36} {A2 : Option Addr} {c2 : Nat} {X2 : List S69} {A3 : Option Addr} {c3 : Nat} {X3 : List Int} {A4 : Option Addr} {c4 : Nat} {X4 : List Int} {A7 : Option Addr} {c7 : Nat} {X7 : List Int} {A8 : Option Addr} {c8 : Nat} {X8 : List (List Int)} {A9 : Option Addr} {c9 : Nat} {X9 : List Int} {AA : Option Addr} {cA : Nat} {XA : List S69} {g t : Nat} {cells : Array Value} (h : PZ W B A1 c1 X1 A2 c2 X2 A3 c3 X3 A4 c4 X4 A7 c7 X7 A8 c8 X8 A9 c9 X9 AA cA XA) (hg : W.heap[g]? = some (.cells cells t (0, 0))) (ht : t = 48) (j : Nat) (u : Value) : PZ (W.setCell ⟨g, j, none⟩ u) B A1 c1 X1 A2 c2 X2 A3 c3 X3 A4 c4 X4 A7 c7 X7 A8 c8 X8 A9 c9 X9 AA cA XA := by
 subst ht; exact ⟨Kd.R_set h.r1 hg (by decide) j u, Kd.R_set h.r2 hg (by decide) j u, Kd.R_set h.r3 hg (by decide) j u, Kd.R_set h.r4 hg (by decide) j u, Kd.R_set h.r7 hg (by decide) j u, Kd.S_set h.r8 hg (by decide) j u, Kd.R_set h.r9 hg (by decide) j u, Kd.R_set h.rA hg (by decide) j u⟩
def putAllT (W : World) (g : Nat) (j : Nat) : List Value → World
 | [] => W
 | v :: vs => putAllT (W.setCell ⟨g, j, none⟩ v) g (j + 1) vs
theorem putAllT_blk {g t : Nat} : ∀ (vs pre cs : List Value) (W : World), W.heap[g]? = some (.cells (pre ++ cs).toArray t (0, 0)) → cs.length = vs.length → (putAllT W g pre.length vs).heap[g]? = some (.cells (pre ++ vs).toArray t (0, 0))
 | [], pre, cs, W, h, hl => by rw [List.eq_nil_of_length_eq_zero hl] at h; exact h
 | v :: vs, pre, [], W, h, hl => by simp at hl
 | v :: vs, pre, c :: cs, W, h, hl => by
  have h1 := blk_put h pre.length v (cs' := (pre ++ v :: cs).toArray) (by simp [List.setIfInBounds_toArray])
  have h2 := putAllT_blk (t := t) vs (pre ++ [v]) cs (W.setCell ⟨g, pre.length, none⟩ v) (by rw [h1]; simp) (by simpa using hl)
  rw [List.length_append, List.length_singleton] at h2
  rw [putAllT, h2]; simp
theorem putAllT_below {w : World} {g : Nat} (hg : w.heap.size ≤ g) : ∀ (vs : List Value) (j : Nat) (W : World), Below w.heap.size w W → Below w.heap.size w (putAllT W g j vs)
 | [], _, _, h => h
 | v :: vs, j, W, h => putAllT_below hg vs (j + 1) _ (below_set h hg)
theorem putAllT_PZ {B g : Nat} {A1 : Option Addr} {c1 : Nat} {X1 : List S36} {A2 : Option Addr} {c2 : Nat} {X2 : List S69} {A3 : Option Addr} {c3 : Nat} {X3 : List Int} {A4 : Option Addr} {c4 : Nat} {X4 : List Int} {A7 : Option Addr} {c7 : Nat} {X7 : List Int} {A8 : Option Addr} {c8 : Nat} {X8 : List (List Int)} {A9 : Option Addr} {c9 : Nat} {X9 : List Int} {AA : Option Addr} {cA : Nat} {XA : List S69} : ∀ (vs : List Value) (j : Nat) (W : World) (cells : Array Value), W.heap[g]? = some (.cells cells 48 (0, 0)) → PZ W B A1 c1 X1 A2 c2 X2 A3 c3 X3 A4 c4 X4 A7 c7 X7 A8 c8 X8 A9 c9 X9 AA cA XA → PZ (putAllT W g j vs) B A1 c1 X1 A2 c2 X2 A3 c3 X3 A4 c4 X4 A7 c7 X7 A8 c8 X8 A9 c9 X9 AA cA XA
 | [], _, _, _, _, h => h
 | v :: vs, j, W, cells, hg, h => putAllT_PZ vs (j + 1) _ _ (blk_put hg j v rfl) (h.set hg rfl j v)
structure PB (w W : World) (CC SS II : Array Value) (bs bi N NA : Nat) (A7 : Option Addr) (c7 : Nat) (X7 : List Int) (A8 : Option Addr) (c8 : Nat) (X8 : List (List Int)) (A9 : Option Addr) (c9 : Nat) (X9 : List Int) (AA : Option Addr) (cA : Nat) (XA : List S69) : Prop where
 hb : Below w.heap.size w W
 hc : W.heap[w.heap.size]? = some (.cells CC 26 (0, 0))
 hr : W.heap[w.heap.size + 1]? = some (.cells #[.int .i64 0, .slice none 0 0, .slice none 0 0, .slice none 0 0, .slice none 0 0, .int .i64 0, .int .i64 0, .slice none 0 0, .slice none 0 0, .slice none 0 0, .slice none 0 0, .int .i64 0] 48 (0, 0))
 hs : W.heap[bs]? = some (.cells SS 26 (0, 0))
 hi : W.heap[bi]? = some (.cells II 46 (0, 0))
 gs : w.heap.size < bs
 gi : w.heap.size ≤ bi
 gn : w.heap.size ≤ N ∧ N ≤ NA ∧ NA ≤ W.heap.size
 r7 : Kd.R (Kd.int .i64) 3 W w.heap.size (fun k_ => some k_ ≠ (Value.slice A9 X9.length c9).ownBlock ∧ k_ < N) (.slice A7 X7.length c7) X7
 r8 : Kd.S (Kd.slice 3 (Kd.int .i64)) 24 W w.heap.size (fun k_ => some k_ ≠ (Value.slice A7 X7.length c7).ownBlock ∧ some k_ ≠ (Value.slice A9 X9.length c9).ownBlock ∧ k_ < N) (.slice A8 X8.length c8) X8
 r9 : Kd.R (Kd.int .i64) 3 W w.heap.size (fun k_ => some k_ ≠ (Value.slice A7 X7.length c7).ownBlock ∧ k_ < N) (.slice A9 X9.length c9) X9
 rA : Kd.R k69 69 W w.heap.size (fun k_ => k_ < NA) (.slice AA XA.length cA) XA
section
variable {w W W' : World} {CC SS II : Array Value} {bs bi N NA : Nat} {A1 : Option Addr} {c1 : Nat} {X1 : List S36} {A2 : Option Addr} {c2 : Nat} {X2 : List S69} {A3 : Option Addr} {c3 : Nat} {X3 : List Int} {A4 : Option Addr} {c4 : Nat} {X4 : List Int} {A7 : Option Addr} {c7 : Nat} {X7 : List Int} {A8 : Option Addr} {c8 : Nat} {X8 : List (List Int)} {A9 : Option Addr} {c9 : Nat} {X9 : List Int} {AA : Option Addr} {cA : Nat} {XA : List S69}
theorem PB.below (h : PB w W CC SS II bs bi N NA A7 c7 X7 A8 c8 X8 A9 c9 X9 AA cA XA) (hb : Below W.heap.size W W') : PB w W' CC SS II bs bi N NA A7 c7 X7 A8 c8 X8 A9 c9 X9 AA cA XA := ⟨below_step h.hb hb, blk_below h.hc hb, blk_below h.hr hb, blk_below h.hs hb, blk_below h.hi hb, h.gs, h.gi, ⟨h.gn.1, h.gn.2.1, Nat.le_trans h.gn.2.2 hb.size⟩, Kd.R_below h.r7 hb, Kd.S_below h.r8 hb, Kd.R_below h.r9 hb, Kd.R_below h.rA hb⟩
theorem blk_apartT {W : World} {g g' t t' : Nat} {cs cs' : Array Value} (h : W.heap[g]? = some (.cells cs t (0, 0))) (h' : W.heap[g']? = some (.cells cs' t' (0, 0))) (ht : t ≠ t') : g ≠ g' := fun e => by
 rw [e, h'] at h
 simp only [Option.some.injEq, Obj.cells.injEq] at h
 exact ht h.2.1.symm
theorem PB.putS (h : PB w W CC SS II bs bi N NA A7 c7 X7 A8 c8 X8 A9 c9 X9 AA cA XA) (j : Nat) (u : Value) {SS' : Array Value} (e : SS.setIfInBounds j u = SS') : PB w (W.setCell ⟨bs, j, none⟩ u) CC SS' II bs bi N NA A7 c7 X7 A8 c8 X8 A9 c9 X9 AA cA XA :=
 ⟨below_set h.hb (Nat.le_of_lt h.gs), (Below.heap_setCell W ⟨bs, j, none⟩ u _ (fun e => by have := h.gs; have e2 : w.heap.size = bs := e; omega)).trans h.hc, (Below.heap_setCell W ⟨bs, j, none⟩ u _ (blk_apartT h.hr h.hs (by decide))).trans h.hr, blk_put h.hs j u e, (Below.heap_setCell W ⟨bs, j, none⟩ u _ (blk_apartT h.hi h.hs (by decide))).trans h.hi, h.gs, h.gi, by simpa using h.gn, Kd.R_set h.r7 h.hs (by decide) j u, Kd.S_set h.r8 h.hs (by decide) j u, Kd.R_set h.r9 h.hs (by decide) j u, Kd.R_set h.rA h.hs (by decide) j u⟩
theorem PB.rowS {α : Type} {d : Kd α} {e B : Nat} {P : Nat → Prop} {v : Value} {xs : List α} (h : PB w W CC SS II bs bi N NA A7 c7 X7 A8 c8 X8 A9 c9 X9 AA cA XA) (hR : Kd.R d e W B P v xs) (ht : ∀ q, q ∈ e :: d.E → q ≠ 26) (j : Nat) (u : Value) : Kd.R d e (W.setCell ⟨bs, j, none⟩ u) B P v xs := Kd.R_set hR h.hs ht j u
theorem PB.fact {s6 s7 lit lf : Int} {AF : Option Addr} {cF : Nat} {XF : List S69} {NF : Nat} (h : PB w W CC SS #[.int .i64 s6, .int .i64 s7, .slice A7 X7.length c7, .slice A8 X8.length c8, .slice A9 X9.length c9, .slice AA XA.length cA, .int .i64 lit] bs bi N NA A7 c7 X7 A8 c8 X8 A9 c9 X9 AA cA XA) (hF : Kd.R k69 69 W w.heap.size (fun k_ => k_ < NF) (.slice AF XF.length cF) XF) (hn : NA ≤ NF ∧ NF ≤ W.heap.size) :
  PB w ((W.setCell ⟨bi, 5, none⟩ (.slice AF XF.length cF)).setCell ⟨bi, 6, none⟩ (.int .i64 lf)) CC SS #[.int .i64 s6, .int .i64 s7, .slice A7 X7.length c7, .slice A8 X8.length c8, .slice A9 X9.length c9, .slice AF XF.length cF, .int .i64 lf] bs bi N NF A7 c7 X7 A8 c8 X8 A9 c9 X9 AF cF XF := by
 have one : ∀ {W II NA'} {AA cA XA} (h : PB w W CC SS II bs bi N NA' A7 c7 X7 A8 c8 X8 A9 c9 X9 AA cA XA) (j : Nat) (u : Value) {II' : Array Value}, II.setIfInBounds j u = II' → PB w (W.setCell ⟨bi, j, none⟩ u) CC SS II' bs bi N NA' A7 c7 X7 A8 c8 X8 A9 c9 X9 AA cA XA := fun h j u II' e =>
  ⟨below_set h.hb h.gi, (Below.heap_setCell _ ⟨bi, j, none⟩ u _ (blk_apartT h.hc h.hi (by decide))).trans h.hc, (Below.heap_setCell _ ⟨bi, j, none⟩ u _ (blk_apartT h.hr h.hi (by decide))).trans h.hr, (Below.heap_setCell _ ⟨bi, j, none⟩ u _ (blk_apartT h.hs h.hi (by decide))).trans h.hs, blk_put h.hi j u e, h.gs, h.gi, by simpa using h.gn, Kd.R_set h.r7 h.hi (by decide) j u, Kd.S_set h.r8 h.hi (by decide) j u, Kd.R_set h.r9 h.hi (by decide) j u, Kd.R_set h.rA h.hi (by decide) j u⟩
 have h0 : PB w W CC SS #[.int .i64 s6, .int .i64 s7, .slice A7 X7.length c7, .slice A8 X8.length c8, .slice A9 X9.length c9, .slice AA XA.length cA, .int .i64 lit] bs bi N NF A7 c7 X7 A8 c8 X8 A9 c9 X9 AF cF XF := ⟨h.hb, h.hc, h.hr, h.hs, h.hi, h.gs, h.gi, ⟨h.gn.1, Nat.le_trans h.gn.2.1 hn.1, hn.2⟩, h.r7, h.r8, h.r9, hF⟩
 exact one (one h0 5 _ rfl) 6 _ rfl
theorem PB.rows (h : PB w W CC SS II bs bi N NA A7 c7 X7 A8 c8 X8 A9 c9 X9 AA cA XA) (o1 : Kd.R k36 36 W w.heap.size (fun _ => True) (.slice A1 X1.length c1) X1) (o2 : Kd.R k69 69 W w.heap.size (fun k_ => NA ≤ k_) (.slice A2 X2.length c2) X2) (o3 : Kd.R (Kd.int .i64) 3 W w.heap.size (fun k_ => some k_ ≠ (Value.slice A4 X4.length c4).ownBlock ∧ NA ≤ k_) (.slice A3 X3.length c3) X3) (o4 : Kd.R (Kd.int .i64) 3 W w.heap.size (fun k_ => some k_ ≠ (Value.slice A3 X3.length c3).ownBlock ∧ NA ≤ k_) (.slice A4 X4.length c4) X4) : PZ W w.heap.size A1 c1 X1 A2 c2 X2 A3 c3 X3 A4 c4 X4 A7 c7 X7 A8 c8 X8 A9 c9 X9 AA cA XA := by
 have hn := h.gn.2.1
 have lt : ∀ {v : Value} {k m : Nat}, (∀ q, v.ownBlock = some q → q < m) → m ≤ k → some k ≠ v.ownBlock := fun h hk e => by have := h _ e.symm; omega
 have ge : ∀ {v : Value} {k m : Nat}, (∀ q, v.ownBlock = some q → m ≤ q) → k < m → some k ≠ v.ownBlock := fun h hk e => by have := h _ e.symm; omega
 have l7 : ∀ q, (Value.slice A7 X7.length c7).ownBlock = some q → q < N := fun q hq => (h.r7.1 q hq).2
 have l9 : ∀ q, (Value.slice A9 X9.length c9).ownBlock = some q → q < N := fun q hq => (h.r9.1 q hq).2
 have lA : ∀ q, (Value.slice AA XA.length cA).ownBlock = some q → q < NA := fun q hq => h.rA.1 q hq
 have g3 : ∀ q, (Value.slice A3 X3.length c3).ownBlock = some q → N ≤ q := fun q hq => Nat.le_trans hn (o3.1 q hq).2
 have g4 : ∀ q, (Value.slice A4 X4.length c4).ownBlock = some q → N ≤ q := fun q hq => Nat.le_trans hn (o4.1 q hq).2
 have g2 : ∀ q, (Value.slice A2 X2.length c2).ownBlock = some q → NA ≤ q := fun q hq => o2.1 q hq
 exact ⟨o1, Kd.R_mono o2 (fun k hk => lt lA hk), Kd.R_mono o3 (fun k hk => ⟨hk.1, lt l7 (Nat.le_trans hn hk.2), lt l9 (Nat.le_trans hn hk.2)⟩), Kd.R_mono o4 (fun k hk => ⟨hk.1, lt l7 (Nat.le_trans hn hk.2), lt l9 (Nat.le_trans hn hk.2)⟩),
  Kd.R_mono h.r7 (fun k hk => ⟨ge g3 hk.2, ge g4 hk.2, hk.1⟩), Kd.S_mono h.r8 (fun k hk => ⟨ge g3 hk.2.2, ge g4 hk.2.2, hk.1, hk.2.1⟩), Kd.R_mono h.r9 (fun k hk => ⟨ge g3 hk.2, ge g4 hk.2, hk.1⟩), Kd.R_mono h.rA (fun k hk => ge g2 hk)⟩
end
def allG (a : Int) (N : Nat) (g : List Int) : List Int := splice (List.replicate N (-1)) (a + 1).toNat g
def okPass (a v : Int) (l1 : List S36) (l2 : List S69) (l3 l4 g : List Int) : Bool := decide (0 ≤ a ∧ a ≤ 1000 ∧ 0 ≤ v ∧ v ≤ 50000 ∧ a + 1 + (g.length : Int) ≤ v + 1 ∧ l1.length ≤ 1000000 ∧ l2.length ≤ 1000000 ∧ l3.length ≤ 1000000 ∧ l4.length ≤ 1000000 ∧ g.length ≤ 1000000)
def passB (a : Int) (l1 : List S36) (l2 : List S69) (l3 l4 g : List Int) (v s6 s7 : Int) (X7 : List Int) (X8 : List (List Int)) (X9 : List Int) (XA : List S69) (lit : Int) : Option (Int × (List (S36)) × (List (S69)) × List Int × List Int × Int × Int × List Int × (List (List Int)) × List Int × (List (S69)) × Int × Int) :=
 (hash_Build.f a l1 l2 l3 l4 (allG a (v + 1).toNat g)).bind fun x => some (x.1, x.2.1, x.2.2.1, x.2.2.2.1, x.2.2.2.2.1, s6, s7, X7, X8, X9, XA, lit, 0)
def passM (k : Nat) (a : Int) (l1 : List S36) (l2 : List S69) (l3 l4 g : List Int) (t : List (List Int)) (v s6 s7 : Int) (X7 : List Int) (X8 : List (List Int)) (X9 : List Int) (XA : List S69) (lit : Int) : Option (Int × (List (S36)) × (List (S69)) × List Int × List Int × Int × Int × List Int × (List (List Int)) × List Int × (List (S69)) × Int × Int) :=
 (slices_Max_int_int.f k (g ++ [-1])).bind fun m => if 0 ≤ m then
  ((ternsim_fact.f (l1.length : Int) t).bind fun p => (preds_Check.f k (l1.length : Int) p.1 p.2).bind fun ce => if ce = 0 then passB a l1 l2 l3 l4 g v s6 s7 X7 X8 X9 p.1 p.2 else some (a, l1, l2, l3, l4, s6, s7, X7, X8, X9, XA, lit, 0))
  else passB a l1 l2 l3 l4 g v s6 s7 X7 X8 X9 XA lit
def ternsim_Pass.f (k : Nat) (a0_0 : Int) (l0_1 : List (S36)) (l0_2 : List (S69)) (l0_3 : List Int) (l0_4 : List Int) : Option (Int × (List (S36)) × (List (S69)) × List Int × List Int × Int × Int × List Int × (List (List Int)) × List Int × (List (S69)) × Int × Int) :=
 (gates_Vars.f a0_0 l0_1 l0_2 l0_3 l0_4).bind fun v => if v.2 = 0 then
  (if okPass a0_0 v.1 l0_1 l0_2 l0_3 l0_4 [] = true then ((lift_Identity.f k a0_0 l0_1 l0_2 l0_3 l0_4).bind fun y => (ternsim_States.f k a0_0 l0_1 l0_2 l0_3 l0_4).bind fun s => if s.2 = 0 then
   ((ternsim_given.f k a0_0 l0_1 l0_2 l0_3 l0_4 s.1).bind fun g => if okPass a0_0 v.1 l0_1 l0_2 l0_3 l0_4 g = true then passM k a0_0 l0_1 l0_2 l0_3 l0_4 g s.1 v.1 y.1 y.2.1 y.2.2.1 y.2.2.2.1 y.2.2.2.2.1 y.2.2.2.2.2.1 y.2.2.2.2.2.2.1 else none)
   else some (a0_0, l0_1, l0_2, l0_3, l0_4, y.1, y.2.1, y.2.2.1, y.2.2.2.1, y.2.2.2.2.1, y.2.2.2.2.2.1, y.2.2.2.2.2.2.1, 0)) else none)
  else some (0, [], [], [], [], 0, 0, [], [], [], [], 0, v.2)
theorem app_keep {P : Program} {ops : Array Oper} {rest : List Oper} {o : Oper} {a : Act} {Q : Exit → Act → World → Prop} {w0 W : World} (base : Nat) (hgd : o.guard = none) (s x : Operand) (t e : TypeId) (bytes : Nat)
  (ho : o.op = .call { callee := .builtin .append, args := #[s, x], argTypes := #[t, t] })
  (ht : P.underlying t = some (.slice e)) (hinfo : (P.info? e).map (fun i => (i.zero, i.size, i.bytes)) = some (some (.int .i64 0), 1, bytes)) (hb0 : 0 < bytes)
  (A : Option Addr) (c : Nat) (l : List Int) (p : Int) (ok : Nat → Prop) (hs : a.eval s = .slice A l.length c) (hx : a.eval x = .slice (some ⟨W.heap.size, 0, none⟩) 1 1)
  (HO : Kd.R (Kd.int .i64) e W base ok (.slice A l.length c) l) (HB : Below base w0 W) (hbase : base ≤ W.heap.size) (hl : (l.length + 1) * bytes ≤ 140737488355328)
  (h : ∀ A1 c1 w1, Kd.C (Kd.int .i64) w1 A1 (l ++ [p]).length (l ++ [p]) → (l ++ [p]).length ≤ c1 → (∃ c2, Kd.R (Kd.int .i64) e w1 base (fun _ => True) (.slice A l.length c2) l) → Below base w0 w1 → wpList P ops Q rest (a.put o.dst (.slice A1 (l ++ [p]).length c1)) w1) :
  wpList P ops Q (o :: rest) a (W.alloc (.cells #[.int .i64 p] e)) := by
 obtain ⟨i0, hi, hzz⟩ := Option.map_eq_some_iff.1 hinfo
 simp only [Prod.mk.injEq] at hzz
 obtain ⟨hz0, hz1, hz2⟩ := hzz
 have hlen : l.length + 1 ≤ 140737488355328 := Nat.le_trans (Nat.le_mul_of_pos_right _ hb0) hl
 have hown := Kd.own_of_R HO
 have hnew : ∀ j u, ([Value.int .i64 p] : List Value)[j]? = some u → (W.alloc (.cells #[.int .i64 p] e)).cell? ((⟨W.heap.size, 0, none⟩ : Addr).add j) = some u := World.news_of_block (cs := #[.int .i64 p]) (t := e) (fr := (0, 0)) (heap_alloc_new W _)
 obtain ⟨v1, w1, hr, h2, hg, _, hat⟩ := run_append_own_at (P := P) (W.alloc (.cells #[.int .i64 p] e)) base t o.type e i0 (.int .i64 0) 1 bytes ht hi hz0 hz1 hz2 rfl (by omega) (.slice A l.length c) l.length (encs (Value.int .i64) l) (hown.alloc _) ⟨W.heap.size, 0, none⟩ 1 1 [.int .i64 p] rfl hnew (by simp; rfl) (by simp only [maxLen]; omega) hl (by simp; omega)
 have h2' : w1.ownsRow base e 1 v1 (l ++ [p]).length (encs (Value.int .i64) (l ++ [p])) := by simpa [encs] using h2
 have hR1 : Kd.R (Kd.int .i64) e w1 base (fun _ => True) v1 (l ++ [p]) := Kd.R_of_own h2' (fun _ _ => trivial)
 obtain ⟨A1, c1, rfl⟩ := Kd.R_slice hR1
 have hB1 : Below base w0 w1 := (HB.alloc hbase _).grown hg (by simp; omega) (own_base hown)
 have hC : ∃ c2, Kd.R (Kd.int .i64) e w1 base (fun _ => True) (.slice A l.length c2) l := by
  rcases hown.2 with ⟨hv, h0⟩ | ⟨g, cap, cur, hv, hbg, hh, hnc, hcm, hcs, htake⟩
  ·simp only [Value.slice.injEq] at hv
   obtain ⟨rfl, -, -⟩ := hv
   obtain rfl := List.eq_nil_of_length_eq_zero h0
   exact ⟨0, Kd.R_nil _ _ _ _ _⟩
  ·simp only [Value.slice.injEq] at hv
   obtain ⟨rfl, hn, rfl⟩ := hv
   have hhA := blk_alloc hh (.cells #[.int .i64 p] e)
   by_cases hroom : l.length + 1 ≤ c
   ·have hr2 := run_append_room_cells (P := P) (w := W.alloc (.cells #[.int .i64 p] e)) t o.type e i0 ht hi g 0 l.length c ⟨W.heap.size, 0, none⟩ 1 1 [.int .i64 p] (by rw [hz1]; rfl) hnew (by simp; rfl) hroom
     (fun j hj => by
      have : j = 0 := by simpa using hj
      subst this
      rw [hz1, Nat.mul_one] at *
      rw [blk_cell hhA, Array.getElem?_eq_getElem (by omega)]; rfl) (fun j hj => blk_frozen hhA _)
    rw [hr] at hr2
    injection hr2 with e1 e2
    simp only [Value.slice.injEq] at e1
    obtain ⟨rfl, -, -⟩ := e1
    have := Kd.R_take hR1 (m := l.length) (by simp)
    rw [List.take_left' rfl] at this
    exact ⟨_, this⟩
   ·obtain ⟨v2, w2, hr2, _, hg2⟩ := run_append_arg_grows (P := P) (w := W.alloc (.cells #[.int .i64 p] e)) t o.type e i0 (.int .i64 0) 1 bytes ht hi hz0 hz1 hz2 rfl (by omega) ⟨g, 0, none⟩ l.length c (encs (Value.int .i64) l) (by simp [encs]) (fun j u hu => (hown.alloc (.cells #[.int .i64 p] e)).cells (g := g) rfl j u hu) ⟨W.heap.size, 0, none⟩ 1 1 [.int .i64 p] rfl hnew (by omega) (by simp only [maxLen]; omega) hl
    rw [hr] at hr2
    injection hr2 with e1 e2
    subst e2
    have hR0 := Kd.R_grown (Kd.R_alloc HO (.cells #[.int .i64 p] e)) hg2 (fun k _ e => by cases e)
    exact ⟨_, Kd.R_mono hR0 (fun _ _ => trivial)⟩
 refine wpList_plain hgd fun K hK => ?_
 unfold Oper.wp execOp
 simp only [ho, resolve, invoke, builtin, Sem.run_bind, Sem.run_pure, Result.andThen_ok, List.map_toArray, List.map_cons, List.map_nil, hs, hx, hr]
 exact hK _ _ (h A1 c1 w1 (Kd.R_reads' hR1).2.2 (Kd.R_reads' hR1).2.1 hC hB1)

set_option maxHeartbeats 8000000 in
set_option maxRecDepth 100000 in
theorem tpass_err (k : Nat) (a0_0 : Int) (A0_1 : Option Addr) (c0_1 : Nat) (l0_1 : List (S36)) (A0_2 : Option Addr) (c0_2 : Nat) (l0_2 : List (S69)) (A0_3 : Option Addr) (c0_3 : Nat) (l0_3 : List Int) (A0_4 : Option Addr) (c0_4 : Nat) (l0_4 : List Int) (n e0 : Int) (w : World) (hr0_1 : Kd.C k36 w A0_1 l0_1.length l0_1) (hc0_1 : l0_1.length ≤ c0_1) (hr0_2 : Kd.C k69 w A0_2 l0_2.length l0_2) (hc0_2 : l0_2.length ≤ c0_2) (hr0_3 : Kd.C (Kd.int .i64) w A0_3 l0_3.length l0_3) (hc0_3 : l0_3.length ≤ c0_3) (hr0_4 : Kd.C (Kd.int .i64) w A0_4 l0_4.length l0_4) (hc0_4 : l0_4.length ≤ c0_4)
  (hv : gates_Vars.f a0_0 l0_1 l0_2 l0_3 l0_4 = some (n, e0)) (hne : e0 ≠ 0) :
  Calls Try.prog 16 #[.agg #[.int .i64 a0_0, .slice A0_1 l0_1.length c0_1, .slice A0_2 l0_2.length c0_2, .slice A0_3 l0_3.length c0_3, .slice A0_4 l0_4.length c0_4]] w fun e w' => ∃ v1_ v2_ v3_ v4_ v7_ v8_ v9_ v10_ : Value, e = .returned (.tuple #[.agg #[.int .i64 0, v1_, v2_, v3_, v4_, .int .i64 0, .int .i64 0, v7_, v8_, v9_, v10_, .int .i64 0], .int .i64 e0]) ∧ Kd.R k36 36 w' w.heap.size (fun _ => True) v1_ [] ∧ Kd.R k69 69 w' w.heap.size (fun k_ => some k_ ≠ (v10_ : Value).ownBlock) v2_ [] ∧ Kd.R (Kd.int .i64) 3 w' w.heap.size (fun k_ => some k_ ≠ (v4_ : Value).ownBlock ∧ some k_ ≠ (v7_ : Value).ownBlock ∧ some k_ ≠ (v9_ : Value).ownBlock) v3_ [] ∧ Kd.R (Kd.int .i64) 3 w' w.heap.size (fun k_ => some k_ ≠ (v3_ : Value).ownBlock ∧ some k_ ≠ (v7_ : Value).ownBlock ∧ some k_ ≠ (v9_ : Value).ownBlock) v4_ [] ∧ Kd.R (Kd.int .i64) 3 w' w.heap.size (fun k_ => some k_ ≠ (v3_ : Value).ownBlock ∧ some k_ ≠ (v4_ : Value).ownBlock ∧ some k_ ≠ (v9_ : Value).ownBlock) v7_ [] ∧ Kd.S (Kd.slice 3 (Kd.int .i64)) 24 w' w.heap.size (fun k_ => some k_ ≠ (v3_ : Value).ownBlock ∧ some k_ ≠ (v4_ : Value).ownBlock ∧ some k_ ≠ (v7_ : Value).ownBlock ∧ some k_ ≠ (v9_ : Value).ownBlock) v8_ [] ∧ Kd.R (Kd.int .i64) 3 w' w.heap.size (fun k_ => some k_ ≠ (v3_ : Value).ownBlock ∧ some k_ ≠ (v4_ : Value).ownBlock ∧ some k_ ≠ (v7_ : Value).ownBlock) v9_ [] ∧ Kd.R k69 69 w' w.heap.size (fun k_ => some k_ ≠ (v2_ : Value).ownBlock) v10_ [] ∧ Below w.heap.size w w' := by
 have hu26 := Try.underlying26
 have hu46 := Try.underlying46
 have hu48 := Try.underlying48
 have huP := Try.underlying44
 have HR0_1 := M_ hr0_1
 have HC0_1 := M_ hc0_1
 have HR0_2 := M_ hr0_2
 have HC0_2 := M_ hc0_2
 have HR0_3 := M_ hr0_3
 have HC0_3 := M_ hc0_3
 have HR0_4 := M_ hr0_4
 have HC0_4 := M_ hc0_4
 have HB0 := M_ (below_alloc (below_alloc (Below.refl w.heap.size w) (.cells #[.int .i64 a0_0, .slice A0_1 l0_1.length c0_1, .slice A0_2 l0_2.length c0_2, .slice A0_3 l0_3.length c0_3, .slice A0_4 l0_4.length c0_4] 26)) (.cells #[.int .i64 0, .slice none 0 0, .slice none 0 0, .slice none 0 0, .slice none 0 0, .int .i64 0, .int .i64 0, .slice none 0 0, .slice none 0 0, .slice none 0 0, .slice none 0 0, .int .i64 0] 48))
 have hz := heap_alloc_new (w.alloc (.cells #[.int .i64 a0_0, .slice A0_1 l0_1.length c0_1, .slice A0_2 l0_2.length c0_2, .slice A0_3 l0_3.length c0_3, .slice A0_4 l0_4.length c0_4] 26)) (.cells #[.int .i64 0, .slice none 0 0, .slice none 0 0, .slice none 0 0, .slice none 0 0, .int .i64 0, .int .i64 0, .slice none 0 0, .slice none 0 0, .slice none 0 0, .slice none 0 0, .int .i64 0] 48)
 rw [World.size_alloc] at hz
 have HZ0 := M_ hz
 have HCC := M_ (blk_alloc (heap_alloc_new w (.cells #[.int .i64 a0_0, .slice A0_1 l0_1.length c0_1, .slice A0_2 l0_2.length c0_2, .slice A0_3 l0_3.length c0_3, .slice A0_4 l0_4.length c0_4] 26)) (.cells #[.int .i64 0, .slice none 0 0, .slice none 0 0, .slice none 0 0, .slice none 0 0, .int .i64 0, .int .i64 0, .slice none 0 0, .slice none 0 0, .slice none 0 0, .slice none 0 0, .int .i64 0] 48))
 clear hr0_1 hr0_2 hr0_3 hr0_4 hc0_1 hc0_2 hc0_3 hc0_4 hz
 have HV := M_ hv
 have b2 : (e0 != 0) = true := bne_iff_ne.mpr hne
 clear hne hv
 have y0 := (blk_cell HCC.out 0).trans (show _ = some (.int .i64 a0_0) from rfl)
 have y1 := (blk_cell HCC.out 1).trans (show _ = some (.slice A0_1 l0_1.length c0_1) from rfl)
 have y2 := (blk_cell HCC.out 2).trans (show _ = some (.slice A0_2 l0_2.length c0_2) from rfl)
 have y3 := (blk_cell HCC.out 3).trans (show _ = some (.slice A0_3 l0_3.length c0_3) from rfl)
 have y4 := (blk_cell HCC.out 4).trans (show _ = some (.slice A0_4 l0_4.length c0_4) from rfl)
 go_enter Try.func16, Try.ntmps16
 go_upto_region 3 with (go_at_call 47; (with_reducible refine (gates_Vars.calls a0_0 A0_1 c0_1 l0_1 A0_2 c0_2 l0_2 A0_3 c0_3 l0_3 A0_4 c0_4 l0_4 n e0 _ (Kd.C_below HR0_1.out HB0.out) HC0_1.out (Kd.C_below HR0_2.out HB0.out) HC0_2.out (Kd.C_below HR0_3.out HB0.out) HC0_3.out (Kd.C_below HR0_4.out HB0.out) HC0_4.out HV.out).mono ?_); rintro e w3 ⟨rfl, hb⟩; have HB3 := M_ (below_step HB0.out hb); have HZ3 := M_ (blk_below HZ0.out hb); have HC3 := M_ (blk_below HCC.out hb); clear hb)
 clear y0 y1 y2 y3 y4
 have z0 := (blk_cell HZ3.out 0).trans (show _ = some (.int .i64 0) from rfl)
 have fz0 := blk_frozen HZ3.out 0
 have z1 := (blk_cell HZ3.out 1).trans (show _ = some (.slice none 0 0) from rfl)
 have fz1 := blk_frozen HZ3.out 1
 have z2 := (blk_cell HZ3.out 2).trans (show _ = some (.slice none 0 0) from rfl)
 have fz2 := blk_frozen HZ3.out 2
 have z3 := (blk_cell HZ3.out 3).trans (show _ = some (.slice none 0 0) from rfl)
 have fz3 := blk_frozen HZ3.out 3
 have z4 := (blk_cell HZ3.out 4).trans (show _ = some (.slice none 0 0) from rfl)
 have fz4 := blk_frozen HZ3.out 4
 have z5 := (blk_cell HZ3.out 5).trans (show _ = some (.int .i64 0) from rfl)
 have fz5 := blk_frozen HZ3.out 5
 have z6 := (blk_cell HZ3.out 6).trans (show _ = some (.int .i64 0) from rfl)
 have fz6 := blk_frozen HZ3.out 6
 have z7 := (blk_cell HZ3.out 7).trans (show _ = some (.slice none 0 0) from rfl)
 have fz7 := blk_frozen HZ3.out 7
 have z8 := (blk_cell HZ3.out 8).trans (show _ = some (.slice none 0 0) from rfl)
 have fz8 := blk_frozen HZ3.out 8
 have z9 := (blk_cell HZ3.out 9).trans (show _ = some (.slice none 0 0) from rfl)
 have fz9 := blk_frozen HZ3.out 9
 have z10 := (blk_cell HZ3.out 10).trans (show _ = some (.slice none 0 0) from rfl)
 have fz10 := blk_frozen HZ3.out 10
 have z11 := (blk_cell HZ3.out 11).trans (show _ = some (.int .i64 0) from rfl)
 have fz11 := blk_frozen HZ3.out 11
 go_wp2
 (try simp only [Exit.inBlock, Exit.then]); refine bodyPost_ret (results_list (rs := [.cell 2 48, .tmp 3]) rfl (by simp) (.cell (w.heap.size + 1) 48 #[.int .i64 0, .slice none 0 0, .slice none 0 0, .slice none 0 0, .slice none 0 0, .int .i64 0, .int .i64 0, .slice none 0 0, .slice none 0 0, .slice none 0 0, .slice none 0 0, .int .i64 0] (0, 0) _ rfl (putAllT_blk [.int .i64 0, .slice none 0 0, .slice none 0 0, .slice none 0 0, .slice none 0 0, .int .i64 0, .int .i64 0, .slice none 0 0, .slice none 0 0, .slice none 0 0, .slice none 0 0, .int .i64 0] [] [.int .i64 0, .slice none 0 0, .slice none 0 0, .slice none 0 0, .slice none 0 0, .int .i64 0, .int .i64 0, .slice none 0 0, .slice none 0 0, .slice none 0 0, .slice none 0 0, .int .i64 0] w3 HZ3.out rfl) Try.underlying48 rfl (by kernel_rfl) (.tmp .nil))) rfl ?_
 exact ⟨_, _, _, _, _, _, _, _, rfl, Kd.R_nil _ _ _ _ _, Kd.R_nil _ _ _ _ _, Kd.R_nil _ _ _ _ _, Kd.R_nil _ _ _ _ _, Kd.R_nil _ _ _ _ _, Kd.S_nil _ _ _ _ _, Kd.R_nil _ _ _ _ _, Kd.R_nil _ _ _ _ _, putAllT_below (Nat.le_succ _) [.int .i64 0, .slice none 0 0, .slice none 0 0, .slice none 0 0, .slice none 0 0, .int .i64 0, .int .i64 0, .slice none 0 0, .slice none 0 0, .slice none 0 0, .slice none 0 0, .int .i64 0] 0 w3 HB3.out⟩
theorem tmax_calls (k : Nat) (A0 : Option Addr) (c0 : Nat) (g : List Int) (m : Int) (w : World) (hc : Kd.C (Kd.int .i64) w A0 (g ++ [-1]).length (g ++ [-1])) (hl : (g ++ [-1]).length ≤ c0) (h : slices_Max_int_int.f k (g ++ [-1]) = some m) :
  Calls Try.prog 52 #[.slice A0 (g.length + 1) c0] w fun e w' => e = .returned (.int .i64 m) ∧ Below w.heap.size w w' := by
 have h1 := slices_Max_int_int.calls k A0 c0 (g ++ [-1]) m w hc hl h
 rw [show (g ++ [(-1 : Int)]).length = g.length + 1 by simp] at h1
 exact h1
theorem rep1T_calls (W : World) (N : Nat) (h1 : 1 ≤ N) (h2 : N ≤ 60000) :
  Calls Try.prog 55 #[.slice (some ⟨W.heap.size, 0, none⟩) 1 1, .int .i64 (N : Int)] (W.alloc (.cells #[.int .i64 (-1)] 3)) fun e w' => ∃ (gg cg : Nat), e = .returned (.slice (some ⟨gg, 0, none⟩) N cg) ∧ Kd.R (Kd.int .i64) 3 w' W.heap.size (fun _ => True) (.slice (some ⟨gg, 0, none⟩) N cg) (List.replicate N (-1)) ∧ W.heap.size ≤ gg ∧ Below W.heap.size W w' := by
 have hr : slices_Repeat_int_int.f [-1] (N : Int) = some (List.replicate N (-1)) := by
  unfold slices_Repeat_int_int.f
  rw [if_pos ⟨rfl, by omega, by omega⟩, Int.toNat_natCast]; rfl
 have hC : Kd.C (Kd.int .i64) (W.alloc (.cells #[.int .i64 (-1)] 3)) (some ⟨W.heap.size, 0, none⟩) ([-1] : List Int).length [-1] := by
  refine ⟨rfl, by simp, fun _ => ⟨_, rfl, ?_⟩⟩
  intro j p hj
  rcases j with _ | j
  ·simp at hj
   subst hj
   refine ⟨[.int .i64 (-1)], rfl, rfl, fun i u hu => ?_⟩
   rcases i with _ | i
   ·simp at hu
    subst hu
    exact (blk_cell (heap_alloc_new W _) 0).trans rfl
   ·simp at hu
  ·simp at hj
 refine (slices_Repeat_int_int.calls (some ⟨W.heap.size, 0, none⟩) 1 [-1] (N : Int) (List.replicate N (-1)) _ hC (Nat.le_refl _) hr).mono ?_
 rintro e w2 ⟨v10, rfl, ho, hb⟩
 obtain ⟨gg, cg, hv, hge, -, -⟩ := Kd.R_form ho (by rw [List.length_replicate]; omega)
 rw [List.length_replicate] at hv
 subst hv
 have hs : W.heap.size ≤ (W.alloc (.cells #[.int .i64 (-1)] 3)).heap.size := by rw [World.size_alloc]; exact Nat.le_succ _
 exact ⟨gg, cg, rfl, Kd.R_lower ho hs, Nat.le_trans hs hge, below_step (below_alloc (Below.refl _ _) _) hb⟩
theorem splice_encs (L : List Int) (off : Nat) (g : List Int) : splice (encs (Value.int .i64) L) off (encs (Value.int .i64) g) = encs (Value.int .i64) (splice L off g) := by
 simp [splice, encs]
theorem C_of_block {W : World} {gg : Nat} {cs : List Value} {t : TypeId} {xs : List Int} (h : W.heap[gg]? = some (.cells cs.toArray t (0, 0))) (hp : cs.take xs.length = encs (Value.int .i64) xs) (hl : xs.length ≤ 9223372036854775807) : Kd.C (Kd.int .i64) W (some ⟨gg, 0, none⟩) xs.length xs := by
 refine Kd.C_of_reads (d := (0 : Int)) ⟨rfl, hl, fun _ => ⟨⟨gg, 0, none⟩, rfl, fun j hj => ?_⟩⟩
 have e : (⟨gg, 0, none⟩ : Addr).add j = ⟨gg, j, none⟩ := by
  have h_ : (⟨gg, 0, none⟩ : Addr).add j = ⟨gg, 0 + j, none⟩ := by unfold Addr.add; split <;> simp_all
  rwa [Nat.zero_add] at h_
 rw [e, blk_cell h j]
 have h2 : (cs.take xs.length)[j]? = some (.int .i64 (xs.getD j 0)) := by rw [hp]; simp [encs, hj, List.getD]
 rw [List.getElem?_take, if_pos hj] at h2
 simpa using h2
theorem take_splice {α : Type} (L : List α) (off n : Nat) (cs : List α) (h : off + cs.length ≤ n) (hn : n ≤ L.length) : (splice L off cs).take n = splice (L.take n) off cs := by
 unfold splice
 rw [List.take_append, List.take_take, Nat.min_eq_right (by omega : off ≤ n), List.length_take, Nat.min_eq_left (by omega : off ≤ L.length), List.take_append, List.take_of_length_le (by omega : cs.length ≤ n - off), List.take_take, Nat.min_eq_left (by omega : off ≤ n), List.drop_take]
 congr 3
 omega
theorem row_block {W : World} {B gg NN cg : Nat} {P : Nat → Prop} {xs : List Int} (h : Kd.R (Kd.int .i64) 3 W B P (.slice (some ⟨gg, 0, none⟩) NN cg) xs) (hp : 0 < NN) (hx : xs.length = NN) : ∃ cur : List Value, W.heap[gg]? = some (.cells cur.toArray 3 (0, 0)) ∧ NN ≤ cur.length ∧ cur.take NN = encs (Value.int .i64) xs ∧ NN ≤ cg := by
 have ho := Kd.own_of_R h
 subst hx
 rcases ho.2 with ⟨_, h0⟩ | ⟨g, cap, cur, hv, hbg, hh, hnc, hcm, hcs, htake⟩
 ·omega
 ·simp only [Value.slice.injEq, Option.some.injEq, Addr.mk.injEq] at hv
  obtain ⟨⟨rfl, -⟩, -, rfl⟩ := hv
  refine ⟨cur.toList, by simpa using hh, by simp; omega, by simpa using htake, by omega⟩
theorem encsT_one (X : List Int) : ∀ v ∈ encs (Value.int .i64) X, v.oneCell' = true := by
 intro v hv
 simp only [encs, List.mem_map] at hv
 obtain ⟨q, _, rfl⟩ := hv
 rfl
theorem cutT (NN a1 : Nat) (h : a1 ≤ NN) : ∃ dp : Nat → Nat → Option Addr, (∀ gg cg, a1 < cg → dp gg cg = some ⟨gg, a1, none⟩) ∧ ∀ gg cg, NN ≤ cg → ∀ W : World, (Instr.slice 24 (.slice (some ⟨gg, 0, none⟩) NN cg) (some (.int .i64 (a1 : Int))) none none).run Try.prog W = .ok (.slice (dp gg cg) (NN - a1) (cg - a1)) W := by
 refine ⟨fun gg cg => if cg = a1 then some ⟨gg, 0, none⟩ else some ⟨gg, a1, none⟩, fun gg cg hc => by dsimp only; rw [if_neg (by omega)], fun gg cg hc W => ?_⟩
 obtain ⟨i0, hi, hzz⟩ := Option.map_eq_some_iff.1 info3
 simp only [Prod.mk.injEq] at hzz
 have := cut_from (P := Try.prog) 24 3 .i64 Try.underlying24 hi 1 hzz.2.1 (some ⟨gg, 0, none⟩) NN cg (a1 : Int) (by omega) (by omega) W
 rw [Int.toNat_natCast] at this
 rw [this]
 refine congrArg (fun a_ => Result.ok (Value.slice a_ (NN - a1) (cg - a1)) W) ?_
 by_cases c : cg = a1
 ·rw [if_pos c]; dsimp only; rw [if_pos c]
 ·have h_ : (⟨gg, 0, none⟩ : Addr).add (a1 * 1) = ⟨gg, 0 + a1 * 1, none⟩ := by unfold Addr.add; split <;> simp_all
  rw [if_neg c]; dsimp only; rw [if_neg c, Option.map_some, h_, Nat.zero_add, Nat.mul_one]
theorem srcT {W : World} {A0 : Option Addr} {g : List Int} (h : Kd.C (Kd.int .i64) W A0 g.length g) (hp : 0 < g.length) : ∃ ad, A0 = some ad ∧ ∀ j v, (encs (Value.int .i64) g)[j]? = some v → W.cell? (ad.add j) = some v := by
 obtain ⟨ad, e, hc⟩ := (Kd.reads_of_C (enc := Value.int .i64) (d := (0 : Int)) (h1 := fun _ => rfl) h).2.2 hp
 refine ⟨ad, e, fun j v hv => ?_⟩
 have hj : j < g.length := by
  rcases Nat.lt_or_ge j g.length with h | h
  ·exact h
  ·rw [List.getElem?_eq_none (by simpa [encs] using h)] at hv; cases hv
 rw [hc j hj, ← hv]
 simp [encs, hj, List.getD]
theorem all_block {W : World} {gg NN a1 : Nat} {cur : List Value} {g : List Int} (h : W.heap[gg]? = some (.cells (splice cur a1 (encs (Value.int .i64) g)).toArray 3 (0, 0))) (ht : cur.take NN = encs (Value.int .i64) (List.replicate NN (-1))) (hg : a1 + g.length ≤ NN) (hl : NN ≤ cur.length) (hN : NN ≤ 60000) : (splice (List.replicate NN (-1)) a1 g).length = NN ∧ Kd.C (Kd.int .i64) W (some ⟨gg, 0, none⟩) (splice (List.replicate NN (-1)) a1 g).length (splice (List.replicate NN (-1)) a1 g) := by
 have e1 : (splice (List.replicate NN (-1)) a1 g).length = NN := by rw [length_splice _ _ _ (by rw [List.length_replicate]; omega), List.length_replicate]
 refine ⟨e1, C_of_block h ?_ (by omega)⟩
 rw [e1, take_splice _ _ _ _ (by simp [encs]; omega) hl, ht, splice_encs]
theorem tbuild_calls (a0_0 : Int) (A0_1 : Option Addr) (c0_1 : Nat) (l0_1 : List (S36)) (A0_2 : Option Addr) (c0_2 : Nat) (l0_2 : List (S69)) (A0_3 : Option Addr) (c0_3 : Nat) (l0_3 : List Int) (A0_4 : Option Addr) (c0_4 : Nat) (l0_4 : List Int) (A1 : Option Addr) (c1 NN : Nat) (l1 : List Int) (r1 : Int) (r2 : List (S36)) (r3 : List (S69)) (r4 r5 r6 : List Int) (r7 : Int) (w : World) (hr0_1 : Kd.C k36 w A0_1 l0_1.length l0_1) (hc0_1 : l0_1.length ≤ c0_1) (hr0_2 : Kd.C k69 w A0_2 l0_2.length l0_2) (hc0_2 : l0_2.length ≤ c0_2) (hr0_3 : Kd.C (Kd.int .i64) w A0_3 l0_3.length l0_3) (hc0_3 : l0_3.length ≤ c0_3) (hr0_4 : Kd.C (Kd.int .i64) w A0_4 l0_4.length l0_4) (hc0_4 : l0_4.length ≤ c0_4) (hr1 : Kd.C (Kd.int .i64) w A1 l1.length l1) (hc1 : l1.length ≤ c1) (hn : l1.length = NN) (h : hash_Build.f a0_0 l0_1 l0_2 l0_3 l0_4 l1 = some (r1, r2, r3, r4, r5, r6, r7)) :
  Calls Try.prog 56 #[.agg #[.int .i64 a0_0, .slice A0_1 l0_1.length c0_1, .slice A0_2 l0_2.length c0_2, .slice A0_3 l0_3.length c0_3, .slice A0_4 l0_4.length c0_4], .slice A1 NN c1] w fun e w' => ∃ v1_ v2_ v3_ v4_ v5_ : Value, e = .returned (.tuple #[.agg #[.int .i64 r1, v1_, v2_, v3_, v4_], v5_, .int .i64 r7]) ∧ Kd.R k36 36 w' w.heap.size (fun _ => True) v1_ r2 ∧ Kd.R k69 69 w' w.heap.size (fun _ => True) v2_ r3 ∧ Kd.R (Kd.int .i64) 3 w' w.heap.size (fun k_ => some k_ ≠ (v4_ : Value).ownBlock ∧ some k_ ≠ (v5_ : Value).ownBlock) v3_ r4 ∧ Kd.R (Kd.int .i64) 3 w' w.heap.size (fun k_ => some k_ ≠ (v3_ : Value).ownBlock ∧ some k_ ≠ (v5_ : Value).ownBlock) v4_ r5 ∧ Below w.heap.size w w' := by
 subst hn
 refine (hash_Build.calls a0_0 A0_1 c0_1 l0_1 A0_2 c0_2 l0_2 A0_3 c0_3 l0_3 A0_4 c0_4 l0_4 A1 c1 l1 r1 r2 r3 r4 r5 r6 r7 w hr0_1 hc0_1 hr0_2 hc0_2 hr0_3 hc0_3 hr0_4 hc0_4 hr1 hc1 h).mono ?_
 rintro e w' ⟨v1, v2, v3, v4, v5, rfl, o1, o2, o3, o4, o5, hb⟩
 exact ⟨v1, v2, v3, v4, v5, rfl, o1, o2, o3, o4, hb⟩
set_option maxHeartbeats 40000000 in
set_option maxRecDepth 100000 in
theorem tpass_main (k : Nat) (a0_0 : Int) (A0_1 : Option Addr) (c0_1 : Nat) (l0_1 : List (S36)) (A0_2 : Option Addr) (c0_2 : Nat) (l0_2 : List (S69)) (A0_3 : Option Addr) (c0_3 : Nat) (l0_3 : List Int) (A0_4 : Option Addr) (c0_4 : Nat) (l0_4 : List Int) (n : Int) (s6 s7 : Int) (X7 : List Int) (X8 : List (List Int)) (X9 : List Int) (XA : List S69) (lit e2 : Int) (L : List (List Int)) (eS : Int) (r1 : Int) (r2 : List (S36)) (r3 : List (S69)) (r4 : List Int) (r5 : List Int) (r6 : Int) (r7 : Int) (r8 : List Int) (r9 : List (List Int)) (r10 : List Int) (r11 : List (S69)) (r12 : Int) (r13 : Int) (w : World) (hr0_1 : Kd.C k36 w A0_1 l0_1.length l0_1) (hc0_1 : l0_1.length ≤ c0_1) (hr0_2 : Kd.C k69 w A0_2 l0_2.length l0_2) (hc0_2 : l0_2.length ≤ c0_2) (hr0_3 : Kd.C (Kd.int .i64) w A0_3 l0_3.length l0_3) (hc0_3 : l0_3.length ≤ c0_3) (hr0_4 : Kd.C (Kd.int .i64) w A0_4 l0_4.length l0_4) (hc0_4 : l0_4.length ≤ c0_4)
  (hv : gates_Vars.f a0_0 l0_1 l0_2 l0_3 l0_4 = some (n, 0)) (hok : okPass a0_0 n l0_1 l0_2 l0_3 l0_4 [] = true) (hid : lift_Identity.f k a0_0 l0_1 l0_2 l0_3 l0_4 = some (s6, s7, X7, X8, X9, XA, lit, e2)) (hst : ternsim_States.f k a0_0 l0_1 l0_2 l0_3 l0_4 = some (L, eS))
  (h : (if eS = 0 then ((ternsim_given.f k a0_0 l0_1 l0_2 l0_3 l0_4 L).bind fun g => if okPass a0_0 n l0_1 l0_2 l0_3 l0_4 g = true then passM k a0_0 l0_1 l0_2 l0_3 l0_4 g L n s6 s7 X7 X8 X9 XA lit else none) else some (a0_0, l0_1, l0_2, l0_3, l0_4, s6, s7, X7, X8, X9, XA, lit, 0)) = some (r1, r2, r3, r4, r5, r6, r7, r8, r9, r10, r11, r12, r13)) :
  Calls Try.prog 16 #[.agg #[.int .i64 a0_0, .slice A0_1 l0_1.length c0_1, .slice A0_2 l0_2.length c0_2, .slice A0_3 l0_3.length c0_3, .slice A0_4 l0_4.length c0_4]] w fun e w' => ∃ v1_ v2_ v3_ v4_ v7_ v8_ v9_ v10_ : Value, e = .returned (.tuple #[.agg #[.int .i64 r1, v1_, v2_, v3_, v4_, .int .i64 r6, .int .i64 r7, v7_, v8_, v9_, v10_, .int .i64 r12], .int .i64 r13]) ∧ Kd.R k36 36 w' w.heap.size (fun _ => True) v1_ r2 ∧ Kd.R k69 69 w' w.heap.size (fun k_ => some k_ ≠ (v10_ : Value).ownBlock) v2_ r3 ∧ Kd.R (Kd.int .i64) 3 w' w.heap.size (fun k_ => some k_ ≠ (v4_ : Value).ownBlock ∧ some k_ ≠ (v7_ : Value).ownBlock ∧ some k_ ≠ (v9_ : Value).ownBlock) v3_ r4 ∧ Kd.R (Kd.int .i64) 3 w' w.heap.size (fun k_ => some k_ ≠ (v3_ : Value).ownBlock ∧ some k_ ≠ (v7_ : Value).ownBlock ∧ some k_ ≠ (v9_ : Value).ownBlock) v4_ r5 ∧ Kd.R (Kd.int .i64) 3 w' w.heap.size (fun k_ => some k_ ≠ (v3_ : Value).ownBlock ∧ some k_ ≠ (v4_ : Value).ownBlock ∧ some k_ ≠ (v9_ : Value).ownBlock) v7_ r8 ∧ Kd.S (Kd.slice 3 (Kd.int .i64)) 24 w' w.heap.size (fun k_ => some k_ ≠ (v3_ : Value).ownBlock ∧ some k_ ≠ (v4_ : Value).ownBlock ∧ some k_ ≠ (v7_ : Value).ownBlock ∧ some k_ ≠ (v9_ : Value).ownBlock) v8_ r9 ∧ Kd.R (Kd.int .i64) 3 w' w.heap.size (fun k_ => some k_ ≠ (v3_ : Value).ownBlock ∧ some k_ ≠ (v4_ : Value).ownBlock ∧ some k_ ≠ (v7_ : Value).ownBlock) v9_ r10 ∧ Kd.R k69 69 w' w.heap.size (fun k_ => some k_ ≠ (v2_ : Value).ownBlock) v10_ r11 ∧ Below w.heap.size w w' := by
 have hu26 := Try.underlying26
 have hu46 := Try.underlying46
 have hu48 := Try.underlying48
 have huP := Try.underlying44
 have HR0_1 := M_ hr0_1
 have HC0_1 := M_ hc0_1
 have HR0_2 := M_ hr0_2
 have HC0_2 := M_ hc0_2
 have HR0_3 := M_ hr0_3
 have HC0_3 := M_ hc0_3
 have HR0_4 := M_ hr0_4
 have HC0_4 := M_ hc0_4
 have HB0 := M_ (below_alloc (below_alloc (Below.refl w.heap.size w) (.cells #[.int .i64 a0_0, .slice A0_1 l0_1.length c0_1, .slice A0_2 l0_2.length c0_2, .slice A0_3 l0_3.length c0_3, .slice A0_4 l0_4.length c0_4] 26)) (.cells #[.int .i64 0, .slice none 0 0, .slice none 0 0, .slice none 0 0, .slice none 0 0, .int .i64 0, .int .i64 0, .slice none 0 0, .slice none 0 0, .slice none 0 0, .slice none 0 0, .int .i64 0] 48))
 have hz := heap_alloc_new (w.alloc (.cells #[.int .i64 a0_0, .slice A0_1 l0_1.length c0_1, .slice A0_2 l0_2.length c0_2, .slice A0_3 l0_3.length c0_3, .slice A0_4 l0_4.length c0_4] 26)) (.cells #[.int .i64 0, .slice none 0 0, .slice none 0 0, .slice none 0 0, .slice none 0 0, .int .i64 0, .int .i64 0, .slice none 0 0, .slice none 0 0, .slice none 0 0, .slice none 0 0, .int .i64 0] 48)
 rw [World.size_alloc] at hz
 have HZ0 := M_ hz
 have HCC := M_ (blk_alloc (heap_alloc_new w (.cells #[.int .i64 a0_0, .slice A0_1 l0_1.length c0_1, .slice A0_2 l0_2.length c0_2, .slice A0_3 l0_3.length c0_3, .slice A0_4 l0_4.length c0_4] 26)) (.cells #[.int .i64 0, .slice none 0 0, .slice none 0 0, .slice none 0 0, .slice none 0 0, .int .i64 0, .int .i64 0, .slice none 0 0, .slice none 0 0, .slice none 0 0, .slice none 0 0, .int .i64 0] 48))
 clear hr0_1 hr0_2 hr0_3 hr0_4 hc0_1 hc0_2 hc0_3 hc0_4 hz
 have HV := M_ hv
 have HID := M_ hid
 have HST := M_ hst
 have HH := M_ h
 unfold okPass at hok
 have HK := M_ (of_decide_eq_true hok)
 clear hv hid hst h hok
 have y0 := (blk_cell HCC.out 0).trans (show _ = some (.int .i64 a0_0) from rfl)
 have y1 := (blk_cell HCC.out 1).trans (show _ = some (.slice A0_1 l0_1.length c0_1) from rfl)
 have y2 := (blk_cell HCC.out 2).trans (show _ = some (.slice A0_2 l0_2.length c0_2) from rfl)
 have y3 := (blk_cell HCC.out 3).trans (show _ = some (.slice A0_3 l0_3.length c0_3) from rfl)
 have y4 := (blk_cell HCC.out 4).trans (show _ = some (.slice A0_4 l0_4.length c0_4) from rfl)
 go_enter Try.func16, Try.ntmps16
 go_upto_region 2 with (go_at_call 47; (with_reducible refine (gates_Vars.calls a0_0 A0_1 c0_1 l0_1 A0_2 c0_2 l0_2 A0_3 c0_3 l0_3 A0_4 c0_4 l0_4 n 0 _ (Kd.C_below HR0_1.out HB0.out) HC0_1.out (Kd.C_below HR0_2.out HB0.out) HC0_2.out (Kd.C_below HR0_3.out HB0.out) HC0_3.out (Kd.C_below HR0_4.out HB0.out) HC0_4.out HV.out).mono ?_); rintro e w3 ⟨rfl, hb⟩; have HB3 := M_ (below_step HB0.out hb); have HZ3 := M_ (blk_below HZ0.out hb); have HC3 := M_ (blk_below HCC.out hb); clear hb)
 clear y0 y1 y2 y3 y4
 go_upto_region 4 with fail
 have y0 := (blk_cell HC3.out 0).trans (show _ = some (.int .i64 a0_0) from rfl)
 have y1 := (blk_cell HC3.out 1).trans (show _ = some (.slice A0_1 l0_1.length c0_1) from rfl)
 have y2 := (blk_cell HC3.out 2).trans (show _ = some (.slice A0_2 l0_2.length c0_2) from rfl)
 have y3 := (blk_cell HC3.out 3).trans (show _ = some (.slice A0_3 l0_3.length c0_3) from rfl)
 have y4 := (blk_cell HC3.out 4).trans (show _ = some (.slice A0_4 l0_4.length c0_4) from rfl)
 go_upto_region 5 with (go_at_call 48; (with_reducible refine (lift_Identity.calls k a0_0 A0_1 c0_1 l0_1 A0_2 c0_2 l0_2 A0_3 c0_3 l0_3 A0_4 c0_4 l0_4 s6 s7 X7 X8 X9 XA lit e2 _ (Kd.C_below HR0_1.out HB3.out) HC0_1.out (Kd.C_below HR0_2.out HB3.out) HC0_2.out (Kd.C_below HR0_3.out HB3.out) HC0_3.out (Kd.C_below HR0_4.out HB3.out) HC0_4.out HID.out).mono ?_); rintro e w4 ⟨v7, v8, v9, vA, rfl, o7, o8, o9, oA, hb⟩; obtain ⟨A7, c7, rfl⟩ := Kd.R_slice o7; obtain ⟨A8, c8, rfl⟩ := Kd.S_slice o8; obtain ⟨A9, c9, rfl⟩ := Kd.R_slice o9; obtain ⟨AA, cA, rfl⟩ := Kd.R_slice oA; have hsz := below_size HB3.out; have HL7 := M_ (Kd.R_lower (Kd.R_mono (Kd.R_bound o7) (fun k hk => (⟨hk.1, hk.2.2.1⟩ : _ ∧ k < w4.heap.size))) hsz); have HL8 := M_ (Kd.S_lower (Kd.S_mono (Kd.S_bound o8) (fun k hk => (⟨hk.1.1, hk.1.2, hk.2.2.1⟩ : _ ∧ _ ∧ k < w4.heap.size))) hsz); have HL9 := M_ (Kd.R_lower (Kd.R_mono (Kd.R_bound o9) (fun k hk => (⟨hk.1, hk.2.2.1⟩ : _ ∧ k < w4.heap.size))) hsz); have HLA := M_ (Kd.R_lower (Kd.R_mono (Kd.R_bound oA) (fun k hk => (hk.2.2.1 : k < w4.heap.size))) hsz); have HB4 := M_ (below_step HB3.out hb); have HZ4 := M_ (blk_below HZ3.out hb); have HC4 := M_ (blk_below HC3.out hb); clear o7 o8 o9 oA hb hsz)
 clear y0 y1 y2 y3 y4
 have hI := heap_alloc_new w4 (.cells #[.int .i64 s6, .int .i64 s7, .slice A7 X7.length c7, .slice A8 X8.length c8, .slice A9 X9.length c9, .slice AA XA.length cA, .int .i64 lit] 46)
 have hb5 := below_alloc (Below.refl w4.heap.size w4) (.cells #[.int .i64 s6, .int .i64 s7, .slice A7 X7.length c7, .slice A8 X8.length c8, .slice A9 X9.length c9, .slice AA XA.length cA, .int .i64 lit] 46)
 have HX5 : Aside0 (Below w.heap.size w (w4.alloc (.cells #[.int .i64 s6, .int .i64 s7, .slice A7 X7.length c7, .slice A8 X8.length c8, .slice A9 X9.length c9, .slice AA XA.length cA, .int .i64 lit] 46)) ∧ (w4.alloc (.cells #[.int .i64 s6, .int .i64 s7, .slice A7 X7.length c7, .slice A8 X8.length c8, .slice A9 X9.length c9, .slice AA XA.length cA, .int .i64 lit] 46)).heap[w.heap.size]? = some (.cells #[.int .i64 a0_0, .slice A0_1 l0_1.length c0_1, .slice A0_2 l0_2.length c0_2, .slice A0_3 l0_3.length c0_3, .slice A0_4 l0_4.length c0_4] 26 (0, 0)) ∧ (w4.alloc (.cells #[.int .i64 s6, .int .i64 s7, .slice A7 X7.length c7, .slice A8 X8.length c8, .slice A9 X9.length c9, .slice AA XA.length cA, .int .i64 lit] 46)).heap[w.heap.size + 1]? = some (.cells #[.int .i64 0, .slice none 0 0, .slice none 0 0, .slice none 0 0, .slice none 0 0, .int .i64 0, .int .i64 0, .slice none 0 0, .slice none 0 0, .slice none 0 0, .slice none 0 0, .int .i64 0] 48 (0, 0)) ∧ (w4.alloc (.cells #[.int .i64 s6, .int .i64 s7, .slice A7 X7.length c7, .slice A8 X8.length c8, .slice A9 X9.length c9, .slice AA XA.length cA, .int .i64 lit] 46)).heap[w4.heap.size]? = some (.cells #[.int .i64 s6, .int .i64 s7, .slice A7 X7.length c7, .slice A8 X8.length c8, .slice A9 X9.length c9, .slice AA XA.length cA, .int .i64 lit] 46 (0, 0))) := ⟨below_step HB4.out hb5, blk_below HC4.out hb5, blk_below HZ4.out hb5, hI⟩
 have R75 := M_ (Kd.R_below HL7.out hb5)
 have R85 := M_ (Kd.S_below HL8.out hb5)
 have R95 := M_ (Kd.R_below HL9.out hb5)
 have RA5 := M_ (Kd.R_below HLA.out hb5)
 have HN5 := M_ (show w.heap.size ≤ w4.heap.size ∧ w4.heap.size ≤ (w4.alloc (.cells #[.int .i64 s6, .int .i64 s7, .slice A7 X7.length c7, .slice A8 X8.length c8, .slice A9 X9.length c9, .slice AA XA.length cA, .int .i64 lit] 46)).heap.size from ⟨below_size HB4.out, below_size hb5⟩)
 clear hI hb5 HL7 HL8 HL9 HLA HB4 HZ4 HC4 HB3 HZ3 HC3 HV HID HB0 HZ0 HCC
 obtain ⟨N, hN⟩ : ∃ N, N = w4.heap.size := ⟨_, rfl⟩
 obtain ⟨bi, hbi⟩ : ∃ N, N = w4.heap.size := ⟨_, rfl⟩
 have HNB : Aside0 (w.heap.size ≤ bi) := ⟨by have := HN5.out.1; omega⟩
 generalize w4.alloc (.cells #[.int .i64 s6, .int .i64 s7, .slice A7 X7.length c7, .slice A8 X8.length c8, .slice A9 X9.length c9, .slice AA XA.length cA, .int .i64 lit] 46) = w5 at HX5 R75 R85 R95 RA5 HN5 ⊢
 rw [← hN] at R75 R85 R95 RA5 HN5
 rw [← hbi] at HX5
 rw [← hbi]
 clear hN hbi
 have y0 := (blk_cell HX5.out.2.1 0).trans (show _ = some (.int .i64 a0_0) from rfl)
 have y1 := (blk_cell HX5.out.2.1 1).trans (show _ = some (.slice A0_1 l0_1.length c0_1) from rfl)
 have y2 := (blk_cell HX5.out.2.1 2).trans (show _ = some (.slice A0_2 l0_2.length c0_2) from rfl)
 have y3 := (blk_cell HX5.out.2.1 3).trans (show _ = some (.slice A0_3 l0_3.length c0_3) from rfl)
 have y4 := (blk_cell HX5.out.2.1 4).trans (show _ = some (.slice A0_4 l0_4.length c0_4) from rfl)
 go_upto_region 6 with fail
 clear y0 y1 y2 y3 y4
 have hb6 := below_alloc (Below.refl w5.heap.size w5) (.cells #[.int .i64 a0_0, .slice A0_1 l0_1.length c0_1, .slice A0_2 l0_2.length c0_2, .slice A0_3 l0_3.length c0_3, .slice A0_4 l0_4.length c0_4] 26)
 have hx : PB w (w5.alloc (.cells #[.int .i64 a0_0, .slice A0_1 l0_1.length c0_1, .slice A0_2 l0_2.length c0_2, .slice A0_3 l0_3.length c0_3, .slice A0_4 l0_4.length c0_4] 26)) #[.int .i64 a0_0, .slice A0_1 l0_1.length c0_1, .slice A0_2 l0_2.length c0_2, .slice A0_3 l0_3.length c0_3, .slice A0_4 l0_4.length c0_4] #[.int .i64 a0_0, .slice A0_1 l0_1.length c0_1, .slice A0_2 l0_2.length c0_2, .slice A0_3 l0_3.length c0_3, .slice A0_4 l0_4.length c0_4] #[.int .i64 s6, .int .i64 s7, .slice A7 X7.length c7, .slice A8 X8.length c8, .slice A9 X9.length c9, .slice AA XA.length cA, .int .i64 lit] w5.heap.size bi N N A7 c7 X7 A8 c8 X8 A9 c9 X9 AA cA XA := ⟨below_step HX5.out.1 hb6, blk_below HX5.out.2.1 hb6, blk_below HX5.out.2.2.1 hb6, heap_alloc_new w5 (.cells #[.int .i64 a0_0, .slice A0_1 l0_1.length c0_1, .slice A0_2 l0_2.length c0_2, .slice A0_3 l0_3.length c0_3, .slice A0_4 l0_4.length c0_4] 26), blk_below HX5.out.2.2.2 hb6, blk_lt HX5.out.2.1, HNB.out, ⟨HN5.out.1, Nat.le_refl _, Nat.le_trans HN5.out.2 hb6.size⟩, Kd.R_below R75.out hb6, Kd.S_below R85.out hb6, Kd.R_below R95.out hb6, Kd.R_below RA5.out hb6⟩
 have HX := M_ hx
 clear hx hb6 HX5 R75 R85 R95 RA5 HN5 HNB
 generalize w5.heap.size = bs at HX ⊢
 generalize w5.alloc (.cells #[.int .i64 a0_0, .slice A0_1 l0_1.length c0_1, .slice A0_2 l0_2.length c0_2, .slice A0_3 l0_3.length c0_3, .slice A0_4 l0_4.length c0_4] 26) = w6 at HX ⊢
 go_cut [] (fun wx => ∃ (A1 : Option Addr) (c1 : Nat) (A2 : Option Addr) (c2 : Nat), Aside0 (PB w wx #[.int .i64 a0_0, .slice A0_1 l0_1.length c0_1, .slice A0_2 l0_2.length c0_2, .slice A0_3 l0_3.length c0_3, .slice A0_4 l0_4.length c0_4] #[.int .i64 a0_0, .slice A1 l0_1.length c1, .slice A2 l0_2.length c2, .slice A0_3 l0_3.length c0_3, .slice A0_4 l0_4.length c0_4] #[.int .i64 s6, .int .i64 s7, .slice A7 X7.length c7, .slice A8 X8.length c8, .slice A9 X9.length c9, .slice AA XA.length cA, .int .i64 lit] bs bi N N A7 c7 X7 A8 c8 X8 A9 c9 X9 AA cA XA) ∧ Aside0 (Kd.R k36 36 wx N (fun k_ => N ≤ k_) (.slice A1 l0_1.length c1) l0_1) ∧ Aside0 (Kd.R k69 69 wx N (fun k_ => N ≤ k_) (.slice A2 l0_2.length c2) l0_2))
 case first =>
  have HX0 := HX
  clear HX
  have HX := M_ (HX0.out.below (below_drew (Below.refl _ _)))
  have hne := Nat.ne_of_lt HX.out.gs
  have hne2 := Ne.symm hne
  have y1 := (blk_cell HX.out.hc 1).trans (show _ = some (.slice A0_1 l0_1.length c0_1) from rfl); have y2 := (blk_cell HX.out.hc 2).trans (show _ = some (.slice A0_2 l0_2.length c0_2) from rfl)
  have HA1 := M_ (show api_Latch_49.f l0_1 = some l0_1 by unfold api_Latch_49.f; rw [if_pos (by have := HK.out; omega)])
  have HA2 := M_ (show api_And.f l0_2 = some l0_2 by unfold api_And.f; rw [if_pos (by have := HK.out; omega)])
  go_region_held3 (fun w' => w'.cell? ⟨w.heap.size, 1, none⟩ = some (.slice A0_1 l0_1.length c0_1) ∧ w'.cell? ⟨w.heap.size, 2, none⟩ = some (.slice A0_2 l0_2.length c0_2))
   (first | exact ⟨by assumption, by assumption⟩ | (refine ⟨?_, ?_⟩ <;> (go_simp; done)) | (refine ⟨?_, ?_⟩ <;> go_simp))
   (first
    | (go_simp; go_at_call 49; (with_reducible refine (api_Latch_49.calls A0_1 c0_1 l0_1 l0_1 _ (Kd.C_below HR0_1.out HX.out.hb) HC0_1.out HA1.out).mono ?_); rintro e w7 ⟨v1, rfl, hR1, hb1⟩; have H7 := M_ (HX.out.below hb1); have R1 := M_ (Kd.R_mono (Kd.R_bound (Kd.R_lower hR1 HX.out.gn.2.2)) (fun k hk => (hk.2.1 : N ≤ k))); clear hR1 hb1; have y1 := (blk_cell H7.out.hc 1).trans (show _ = some (.slice A0_1 l0_1.length c0_1) from rfl); have y2 := (blk_cell H7.out.hc 2).trans (show _ = some (.slice A0_2 l0_2.length c0_2) from rfl); obtain ⟨A1, c1, rfl⟩ := Kd.R_slice R1.out; dsimp only)
    | (go_simp; go_at_call 50; (with_reducible refine (api_And.calls A0_2 c0_2 l0_2 l0_2 _ (Kd.C_below HR0_2.out H7.out.hb) HC0_2.out HA2.out).mono ?_); rintro e w8 ⟨v2, rfl, hR1, hb1⟩; have H8 := M_ (H7.out.below hb1); have R18 := M_ (Kd.R_below R1.out hb1); have R28 := M_ (Kd.R_mono (Kd.R_bound (Kd.R_lower hR1 H7.out.gn.2.2)) (fun k hk => (hk.2.1 : N ≤ k))); clear hR1 hb1; have y1 := (blk_cell H8.out.hc 1).trans (show _ = some (.slice A0_1 l0_1.length c0_1) from rfl); have y2 := (blk_cell H8.out.hc 2).trans (show _ = some (.slice A0_2 l0_2.length c0_2) from rfl); obtain ⟨A2, c2, rfl⟩ := Kd.R_slice R28.out; have q1 := (blk_cell H8.out.hs 1).trans (show _ = some (.slice A0_1 l0_1.length c0_1) from rfl); have q2 := blk_frozen H8.out.hs 1; have q3 := (blk_cell H8.out.hs 2).trans (show _ = some (.slice A0_2 l0_2.length c0_2) from rfl); have q4 := blk_frozen H8.out.hs 2; dsimp only))
  all_goals (
   go_wp2_with fail
   go_meet
   have H9 := (H8.out.putS 1 (.slice A1 l0_1.length c1) rfl)
   exact ⟨A1, c1, A2, c2, ⟨H9.putS 2 (.slice A2 l0_2.length c2) rfl⟩, ⟨H9.rowS (H8.out.rowS R18.out (by decide) 1 _) (by decide) 2 _⟩, ⟨H9.rowS (H8.out.rowS R28.out (by decide) 1 _) (by decide) 2 _⟩⟩)
 case rest =>
 clear HX
 obtain ⟨A1, c1, A2, c2, HX, R1, R2⟩ := hcut
 go_upto_region 7 with fail
 go_cut [] (fun wx => ∃ (A3 : Option Addr) (c3 : Nat) (A4 : Option Addr) (c4 : Nat), Aside0 (PB w wx #[.int .i64 a0_0, .slice A0_1 l0_1.length c0_1, .slice A0_2 l0_2.length c0_2, .slice A0_3 l0_3.length c0_3, .slice A0_4 l0_4.length c0_4] #[.int .i64 a0_0, .slice A1 l0_1.length c1, .slice A2 l0_2.length c2, .slice A3 l0_3.length c3, .slice A4 l0_4.length c4] #[.int .i64 s6, .int .i64 s7, .slice A7 X7.length c7, .slice A8 X8.length c8, .slice A9 X9.length c9, .slice AA XA.length cA, .int .i64 lit] bs bi N N A7 c7 X7 A8 c8 X8 A9 c9 X9 AA cA XA) ∧ Aside0 (Kd.R k36 36 wx N (fun k_ => N ≤ k_) (.slice A1 l0_1.length c1) l0_1) ∧ Aside0 (Kd.R k69 69 wx N (fun k_ => N ≤ k_) (.slice A2 l0_2.length c2) l0_2) ∧ Aside0 (Kd.R (Kd.int .i64) 3 wx w.heap.size (fun k_ => some k_ ≠ (Value.slice A4 l0_4.length c4).ownBlock ∧ N ≤ k_) (.slice A3 l0_3.length c3) l0_3) ∧ Aside0 (Kd.R (Kd.int .i64) 3 wx w.heap.size (fun k_ => some k_ ≠ (Value.slice A3 l0_3.length c3).ownBlock ∧ N ≤ k_) (.slice A4 l0_4.length c4) l0_4))
 case first =>
  have HX0 := HX
  clear HX
  have HX := M_ (HX0.out.below (below_drew (Below.refl _ _)))
  have hne := Nat.ne_of_lt HX.out.gs
  have hne2 := Ne.symm hne
  have R1d := M_ (Kd.R_below R1.out (below_drew (Below.refl _ _)))
  have R2d := M_ (Kd.R_below R2.out (below_drew (Below.refl _ _)))
  have y3 := (blk_cell HX.out.hc 3).trans (show _ = some (.slice A0_3 l0_3.length c0_3) from rfl); have y4 := (blk_cell HX.out.hc 4).trans (show _ = some (.slice A0_4 l0_4.length c0_4) from rfl)
  have HA3 := M_ (show slices_Clone_int_int.f l0_3 = some l0_3 by unfold slices_Clone_int_int.f; rw [if_pos (by have := HK.out; omega)])
  have HA4 := M_ (show slices_Clone_int_int.f l0_4 = some l0_4 by unfold slices_Clone_int_int.f; rw [if_pos (by have := HK.out; omega)])
  go_region_held3 (fun w' => w'.cell? ⟨w.heap.size, 3, none⟩ = some (.slice A0_3 l0_3.length c0_3) ∧ w'.cell? ⟨w.heap.size, 4, none⟩ = some (.slice A0_4 l0_4.length c0_4))
   (first | exact ⟨by assumption, by assumption⟩ | (refine ⟨?_, ?_⟩ <;> (go_simp; done)) | (refine ⟨?_, ?_⟩ <;> go_simp))
   (first
    | (go_simp; go_at_call 51; (with_reducible refine (slices_Clone_int_int.calls A0_3 c0_3 l0_3 l0_3 _ (Kd.C_below HR0_3.out HX.out.hb) HC0_3.out HA3.out).mono ?_); rintro e w7 ⟨v3, rfl, hR1, hb1⟩; have H7 := M_ (HX.out.below hb1); have R3 := M_ (Kd.R_mono (Kd.R_bound (Kd.R_lower hR1 HX.out.gn.2.2)) (fun k hk => (⟨hk.2.1, hk.2.2.1⟩ : N ≤ k ∧ k < w7.heap.size))); have R17 := M_ (Kd.R_below R1d.out hb1); have R27 := M_ (Kd.R_below R2d.out hb1); clear hR1 hb1; have y3 := (blk_cell H7.out.hc 3).trans (show _ = some (.slice A0_3 l0_3.length c0_3) from rfl); have y4 := (blk_cell H7.out.hc 4).trans (show _ = some (.slice A0_4 l0_4.length c0_4) from rfl); obtain ⟨A3, c3, rfl⟩ := Kd.R_slice R3.out; dsimp only)
    | (go_simp; go_at_call 51; (with_reducible refine (slices_Clone_int_int.calls A0_4 c0_4 l0_4 l0_4 _ (Kd.C_below HR0_4.out H7.out.hb) HC0_4.out HA4.out).mono ?_); rintro e w8 ⟨v4, rfl, hR1, hb1⟩; have H8 := M_ (H7.out.below hb1); have g4 := Kd.R_base hR1; have R38 := M_ (Kd.R_mono (Kd.R_below R3.out hb1) (fun k hk => (⟨fun e_ => by have := g4 _ e_.symm; omega, hk.1⟩ : some k ≠ v4.ownBlock ∧ N ≤ k))); have R48 := M_ (Kd.R_mono (Kd.R_bound hR1) (fun k hk => (⟨fun e_ => by have := (R3.out.1 _ e_.symm).2; omega, Nat.le_trans H7.out.gn.2.2 hk.2.1⟩ : some k ≠ (Value.slice A3 l0_3.length c3).ownBlock ∧ N ≤ k))); have R48 := M_ (Kd.R_lower R48.out (Nat.le_trans H7.out.gn.1 (Nat.le_trans H7.out.gn.2.1 H7.out.gn.2.2))); have R18 := M_ (Kd.R_below R17.out hb1); have R28 := M_ (Kd.R_below R27.out hb1); clear hR1 hb1 g4; have y3 := (blk_cell H8.out.hc 3).trans (show _ = some (.slice A0_3 l0_3.length c0_3) from rfl); have y4 := (blk_cell H8.out.hc 4).trans (show _ = some (.slice A0_4 l0_4.length c0_4) from rfl); obtain ⟨A4, c4, rfl⟩ := Kd.R_slice R48.out; have q1 := (blk_cell H8.out.hs 3).trans (show _ = some (.slice A0_3 l0_3.length c0_3) from rfl); have q2 := blk_frozen H8.out.hs 3; have q3 := (blk_cell H8.out.hs 4).trans (show _ = some (.slice A0_4 l0_4.length c0_4) from rfl); have q4 := blk_frozen H8.out.hs 4; dsimp only))
  all_goals (
   go_wp2_with fail
   go_meet
   have H9 := (H8.out.putS 3 (.slice A3 l0_3.length c3) rfl)
   exact ⟨A3, c3, A4, c4, ⟨H9.putS 4 (.slice A4 l0_4.length c4) rfl⟩, ⟨H9.rowS (H8.out.rowS R18.out (by decide) 3 _) (by decide) 4 _⟩, ⟨H9.rowS (H8.out.rowS R28.out (by decide) 3 _) (by decide) 4 _⟩, ⟨H9.rowS (H8.out.rowS (Kd.R_lower R38.out HX.out.gn.1) (by decide) 3 _) (by decide) 4 _⟩, ⟨H9.rowS (H8.out.rowS R48.out (by decide) 3 _) (by decide) 4 _⟩⟩)
 case rest =>
 clear HX R1 R2
 obtain ⟨A3, c3, A4, c4, HX, R1, R2, R3, R4⟩ := hcut

 go_upto_region 8 with fail
 have y0 := (blk_cell HX.out.hc 0).trans (show _ = some (.int .i64 a0_0) from rfl)
 have y1 := (blk_cell HX.out.hc 1).trans (show _ = some (.slice A0_1 l0_1.length c0_1) from rfl)
 have y2 := (blk_cell HX.out.hc 2).trans (show _ = some (.slice A0_2 l0_2.length c0_2) from rfl)
 have y3 := (blk_cell HX.out.hc 3).trans (show _ = some (.slice A0_3 l0_3.length c0_3) from rfl)
 have y4 := (blk_cell HX.out.hc 4).trans (show _ = some (.slice A0_4 l0_4.length c0_4) from rfl)
 go_upto_region 9 with (go_at_call 12; (with_reducible refine (ternsim_States.calls k a0_0 A0_1 c0_1 l0_1 A0_2 c0_2 l0_2 A0_3 c0_3 l0_3 A0_4 c0_4 l0_4 L eS _ (Kd.C_below HR0_1.out HX.out.hb) HC0_1.out (Kd.C_below HR0_2.out HX.out.hb) HC0_2.out (Kd.C_below HR0_3.out HX.out.hb) HC0_3.out (Kd.C_below HR0_4.out HX.out.hb) HC0_4.out HST.out).mono ?_); rintro e w10 ⟨vL, rfl, oL, hb⟩; have HX10 := M_ (HX.out.below hb); have R10_1 := M_ (Kd.R_below R1.out hb); have R10_2 := M_ (Kd.R_below R2.out hb); have R10_3 := M_ (Kd.R_below R3.out hb); have R10_4 := M_ (Kd.R_below R4.out hb); obtain ⟨AL, cL, rfl⟩ := Kd.N_slice oL; have RL := M_ (Kd.N_lower oL (below_size HX.out.hb)); clear oL hb)
 clear y0 y1 y2 y3 y4
 clear HX R1 R2 R3 R4 HST
 by_cases ce : eS = 0
 ·subst ce
  have HG0 := M_ (show ((ternsim_given.f k a0_0 l0_1 l0_2 l0_3 l0_4 L).bind fun g => if okPass a0_0 n l0_1 l0_2 l0_3 l0_4 g = true then passM k a0_0 l0_1 l0_2 l0_3 l0_4 g L n s6 s7 X7 X8 X9 XA lit else none) = _ from (if_pos rfl).symm.trans HH.out)
  clear HH
  go_upto_region 11 with fail

  obtain ⟨g, hg, hG⟩ := Option.bind_eq_some_iff.1 HG0.out
  have HG := M_ hg
  by_cases ck : okPass a0_0 n l0_1 l0_2 l0_3 l0_4 g = true
  ·rw [if_pos ck] at hG
   have HK2 := M_ (of_decide_eq_true (show decide _ = true from ck))
   unfold passM at hG
   obtain ⟨m, hm, hM⟩ := Option.bind_eq_some_iff.1 hG
   have HM := M_ hm
   have HM2 := M_ hM
   clear HG0 hg hG hm hM ck
   have y0 := (blk_cell HX10.out.hc 0).trans (show _ = some (.int .i64 a0_0) from rfl)
   have y1 := (blk_cell HX10.out.hc 1).trans (show _ = some (.slice A0_1 l0_1.length c0_1) from rfl)
   have y2 := (blk_cell HX10.out.hc 2).trans (show _ = some (.slice A0_2 l0_2.length c0_2) from rfl)
   have y3 := (blk_cell HX10.out.hc 3).trans (show _ = some (.slice A0_3 l0_3.length c0_3) from rfl)
   have y4 := (blk_cell HX10.out.hc 4).trans (show _ = some (.slice A0_4 l0_4.length c0_4) from rfl)
   go_upto_region 12 with (go_at_call 46; (with_reducible refine (ternsim_given.calls k a0_0 A0_1 c0_1 l0_1 A0_2 c0_2 l0_2 A0_3 c0_3 l0_3 A0_4 c0_4 l0_4 AL cL L g _ (Kd.C_below HR0_1.out HX10.out.hb) HC0_1.out (Kd.C_below HR0_2.out HX10.out.hb) HC0_2.out (Kd.C_below HR0_3.out HX10.out.hb) HC0_3.out (Kd.C_below HR0_4.out HX10.out.hb) HC0_4.out (Kd.N_reads' RL.out).2.2 (Kd.N_reads' RL.out).2.1 HG.out).mono ?_); rintro e w11 ⟨vg, rfl, og, hb⟩; have HB11 := M_ hb; obtain ⟨Ag, cg, rfl⟩ := Kd.R_slice og; have RG := M_ og; clear og hb)
   clear y0 y1 y2 y3 y4
   have RG' := RG
   by_cases cm0 : 0 ≤ m
   ·have cb : decide (0 ≤ m) = true := decide_eq_true cm0
    have cb2 : decide (m ≥ 0) = true := decide_eq_true cm0
    have HM3 := M_ (show ((ternsim_fact.f (l0_1.length : Int) L).bind fun p => (preds_Check.f k (l0_1.length : Int) p.1 p.2).bind fun ce => if ce = 0 then passB a0_0 l0_1 l0_2 l0_3 l0_4 g n s6 s7 X7 X8 X9 p.1 p.2 else some (a0_0, l0_1, l0_2, l0_3, l0_4, s6, s7, X7, X8, X9, XA, lit, 0)) = _ from (if_pos cm0).symm.trans HM2.out)
    clear HM2 cm0
    go_upto_region 13 with (first | ((with_reducible refine gate_builtin (b := .append) (xs := #[.tmp 60, .tmp 61]) rfl ?_); at_builtin; refine app_keep (w0 := w10) w10.heap.size rfl (.tmp 60) (.tmp 61) 24 3 8 rfl Try.underlying24 info3 (by decide) Ag cg g (-1) (fun _ => True) rfl rfl RG.out HB11.out (below_size HB11.out) (by have := HK2.out; omega) ?_; intro Am cm w12 hc1 hl1 hc2 hb; have HCM := M_ hc1; have HLM := M_ hl1; obtain ⟨cg2, hc2⟩ := hc2; have HCG := M_ hc2; have HB12 := M_ hb; clear hc1 hl1 hc2 hb) | (go_at_call 52; (with_reducible refine (tmax_calls k Am cm g m _ HCM.out HLM.out HM.out).mono ?_); rintro e w13 ⟨rfl, hb⟩; have HB13 := M_ (below_step HB12.out hb); have HCG13 := M_ (Kd.R_below HCG.out hb); clear hb))

    have HX13 := M_ (HX10.out.below HB13.out)
    have R13_1 := M_ (Kd.R_below R10_1.out HB13.out)
    have R13_2 := M_ (Kd.R_below R10_2.out HB13.out)
    have R13_3 := M_ (Kd.R_below R10_3.out HB13.out)
    have R13_4 := M_ (Kd.R_below R10_4.out HB13.out)
    have RL13 := M_ (Kd.N_below RL.out HB13.out)
    clear HX10 R10_1 R10_2 R10_3 R10_4 RL HB13 HB12 HB11 HCM HLM HCG RG RG' HM
    obtain ⟨⟨XF, fl⟩, hfa, hF⟩ := Option.bind_eq_some_iff.1 HM3.out
    obtain ⟨ce, hce, hF⟩ := Option.bind_eq_some_iff.1 hF
    dsimp only at hce hF
    have HFA := M_ hfa
    have HCE := M_ hce
    have HFF := M_ hF
    clear HM3 hfa hce hF
    have y1 := (blk_cell HX13.out.hc 1).trans (show _ = some (.slice A0_1 l0_1.length c0_1) from rfl)
    go_upto_region 14 with (go_at_call 53; (with_reducible refine (ternsim_fact.calls (l0_1.length : Int) AL cL L XF fl _ (Kd.N_reads' RL13.out).2.2 (Kd.N_reads' RL13.out).2.1 HFA.out).mono ?_); rintro e w14 ⟨vF, rfl, oF, hb⟩; have HBF := M_ hb; obtain ⟨AF, cF, rfl⟩ := Kd.R_slice oF; have OF := M_ oF; clear oF hb)
    clear y1
    have hb15 := below_alloc (Below.refl w14.heap.size w14) (.cells #[.slice AF XF.length cF, .int .i64 fl] 44)
    have HBP := M_ (heap_alloc_new w14 (.cells #[.slice AF XF.length cF, .int .i64 fl] 44))
    have HF15 := M_ (Kd.R_below OF.out hb15)
    have HFNX := M_ (show N ≤ w14.heap.size ∧ w14.heap.size ≤ (w14.alloc (.cells #[.slice AF XF.length cF, .int .i64 fl] 44)).heap.size from ⟨Nat.le_trans HX13.out.gn.2.2 HBF.out.size, hb15.size⟩)
    have HGE14 := M_ (show w13.heap.size ≤ w14.heap.size ∧ w14.heap.size ≤ (w14.alloc (.cells #[.slice AF XF.length cF, .int .i64 fl] 44)).heap.size from ⟨HBF.out.size, hb15.size⟩)
    have HOL := M_ (fun k (hk : (Value.slice AF XF.length cF).ownBlock = some k) => Kd.R_lt OF.out k hk)
    have hb15 := below_step HBF.out hb15
    have HX15 := M_ (HX13.out.below hb15)
    have R15_1 := M_ (Kd.R_below R13_1.out hb15)
    have R15_2 := M_ (Kd.R_below R13_2.out hb15)
    have R15_3 := M_ (Kd.R_below R13_3.out hb15)
    have R15_4 := M_ (Kd.R_below R13_4.out hb15)
    have HCG15 := M_ (Kd.R_below HCG13.out hb15)
    have RF15 := M_ (Kd.R_lower (Kd.R_mono (Kd.R_bound HF15.out) (fun k hk => hk.2.2.1)) (below_size HX13.out.hb))
    clear hb15 HX13 R13_1 R13_2 R13_3 R13_4 HCG13 HF15 RL13 HBF
    obtain ⟨NF, hNF⟩ : ∃ N, N = w14.heap.size := ⟨_, rfl⟩
    have HNF := M_ hNF
    generalize hbp_ : w14.heap.size = bp at HBP ⊢
    generalize hw_ : w14.alloc (.cells #[.slice AF XF.length cF, .int .i64 fl] 44) = w15 at HBP HX15 R15_1 R15_2 R15_3 R15_4 HCG15 RF15 HGE14 HFNX ⊢
    clear hw_ hbp_ hNF
    have y1 := (blk_cell HX15.out.hc 1).trans (show _ = some (.slice A0_1 l0_1.length c0_1) from rfl)
    have p0 := (blk_cell HBP.out 0).trans (show _ = some (.slice AF XF.length cF) from rfl)
    have p1 := (blk_cell HBP.out 1).trans (show _ = some (.int .i64 fl) from rfl)
    by_cases cce : ce = 0
    ·have c1_ : (ce != 0) = false := by rw [cce]; rfl
     have HFF2 := M_ ((if_pos cce).symm.trans HFF.out)
     clear HFF
     go_upto_region 16 with (go_at_call 54; (with_reducible refine (preds_Check.calls k (l0_1.length : Int) AF cF XF fl ce _ (Kd.R_reads' RF15.out).2.2 (Kd.R_reads' RF15.out).2.1 HCE.out).mono ?_); rintro e w16 ⟨rfl, hb⟩; have HB16 := M_ hb; clear hb)
     clear y1 p0 p1
     have HX16 := M_ (HX15.out.below HB16.out)
     have R16_1 := M_ (Kd.R_below R15_1.out HB16.out)
     have R16_2 := M_ (Kd.R_below R15_2.out HB16.out)
     have R16_3 := M_ (Kd.R_below R15_3.out HB16.out)
     have R16_4 := M_ (Kd.R_below R15_4.out HB16.out)
     have HBP16 := M_ (blk_below HBP.out HB16.out)
     have RF16 := M_ (Kd.R_below RF15.out HB16.out)
     have HCG16 := M_ (Kd.R_below HCG15.out HB16.out)
     have HFN : Aside0 (N ≤ w15.heap.size ∧ w15.heap.size ≤ w16.heap.size) := ⟨Nat.le_trans HFNX.out.1 HFNX.out.2, HB16.out.size⟩
     have p0 := (blk_cell HBP16.out 0).trans (show _ = some (.slice AF XF.length cF) from rfl)
     have p1 := (blk_cell HBP16.out 1).trans (show _ = some (.int .i64 fl) from rfl)
     have sb0 := (blk_cell HX16.out.hi 0).trans (show _ = some (.int .i64 s6) from rfl)
     have sd0 := blk_frozen HX16.out.hi 0
     have sb1 := (blk_cell HX16.out.hi 1).trans (show _ = some (.int .i64 s7) from rfl)
     have sd1 := blk_frozen HX16.out.hi 1
     have sb2 := (blk_cell HX16.out.hi 2).trans (show _ = some (.slice A7 X7.length c7) from rfl)
     have sd2 := blk_frozen HX16.out.hi 2
     have sb3 := (blk_cell HX16.out.hi 3).trans (show _ = some (.slice A8 X8.length c8) from rfl)
     have sd3 := blk_frozen HX16.out.hi 3
     have sb4 := (blk_cell HX16.out.hi 4).trans (show _ = some (.slice A9 X9.length c9) from rfl)
     have sd4 := blk_frozen HX16.out.hi 4
     have sb5 := (blk_cell HX16.out.hi 5).trans (show _ = some (.slice AA XA.length cA) from rfl)
     have sd5 := blk_frozen HX16.out.hi 5
     have sb6 := (blk_cell HX16.out.hi 6).trans (show _ = some (.int .i64 lit) from rfl)
     have sd6 := blk_frozen HX16.out.hi 6
     go_upto_region 17 with fail
     clear p0 p1 sb0 sd0 sb1 sd1 sb2 sd2 sb3 sd3 sb4 sd4 sb5 sd5 sb6 sd6
     have HX17 := M_ (HX16.out.fact (lf := fl) RF16.out HFN.out)
     have HCG17 := M_ (Kd.R_set (Kd.R_set HCG16.out HX16.out.hi (by decide) 5 (.slice AF XF.length cF)) (blk_set HX16.out.hi 5 (.slice AF XF.length cF)) (by decide) 6 (.int .i64 fl))
     clear HX16 HCG16 HBP16 RF16 R16_1 R16_2 R16_3 R16_4 HX15 HCG15 RF15 R15_1 R15_2 R15_3 R15_4 HBP
     generalize (w16.setCell ⟨bi, 5, none⟩ (.slice AF XF.length cF)).setCell ⟨bi, 6, none⟩ (.int .i64 fl) = w17 at HX17 HCG17 ⊢
     have HXT := HX17
     have HCGT := HCG17
     obtain ⟨NN, hNN⟩ : ∃ N : Nat, N = (n + 1).toNat := ⟨_, rfl⟩
     obtain ⟨a1, ha1⟩ : ∃ N : Nat, N = (a0_0 + 1).toNat := ⟨_, rfl⟩
     have HNN : Aside0 (1 ≤ NN ∧ NN ≤ 60000 ∧ (NN : Int) = n + 1 ∧ (a1 : Int) = a0_0 + 1 ∧ a1 + g.length ≤ NN) := ⟨by have := HK2.out; refine ⟨?_, ?_, ?_, ?_, ?_⟩ <;> omega⟩
     obtain ⟨⟨x1, X1, X2, X3, X4, X5, x6⟩, hb_, hr_⟩ := Option.bind_eq_some_iff.1 (HFF2.out)
     have HBU : Aside0 (hash_Build.f a0_0 l0_1 l0_2 l0_3 l0_4 (splice (List.replicate NN (-1)) a1 g) = some (x1, X1, X2, X3, X4, X5, x6)) := ⟨by rw [hNN, ha1]; exact hb_⟩
     have HRR := M_ hr_
     clear hb_ hr_ hNN ha1
     have eN : wrap64 (n + 1) = (NN : Int) := by have := HNN.out; have := HK2.out; unfold wrap64; omega
     have eA : wrap64 (a0_0 + 1) = (a1 : Int) := by have := HNN.out; have := HK2.out; unfold wrap64; omega
     have hsI : (Try.prog.info? 3).map (·.size) = some 1 := by kernel_rfl
     obtain ⟨dp, hdp, hcut0⟩ : ∃ dp : Nat → Nat → Option Addr, (∀ gg cg, a1 < cg → dp gg cg = some ⟨gg, a1, none⟩) ∧ ∀ gg cg, NN ≤ cg → ∀ W : World, (Instr.slice 24 (.slice (some ⟨gg, 0, none⟩) NN cg) (some (.int .i64 (a1 : Int))) none none).run Try.prog W = .ok (.slice (dp gg cg) (NN - a1) (cg - a1)) W := cutT NN a1 (by have := HNN.out; omega)
     have HDP := M_ hdp
     have HCUT := M_ hcut0
     clear hdp hcut0
     go_upto_region 18 with (go_at_call 55; (with_reducible refine (rep1T_calls w17 NN HNN.out.1 HNN.out.2.1).mono ?_); rintro e w20 ⟨gg, cg, rfl, oR, hge, hb⟩; have HB20 := M_ hb; have HGE := M_ hge; obtain ⟨cur, hcur, hcl, hct, hcg⟩ := row_block oR (by have := HNN.out; omega) (by rw [List.length_replicate]); have HCUR := M_ hcur; have HCL := M_ hcl; have HCT := M_ hct; have HCGE := M_ hcg; have hcut := HCUT.out gg cg hcg; have y0 := (blk_cell (blk_below HXT.out.hc hb) 0).trans (show _ = some (.int .i64 a0_0) from rfl); clear oR hge hb hcur hcl hct hcg)
     go_upto_region 19 with ((with_reducible refine gate_builtin (b := .copy) (xs := #[.tmp 89, .tmp 90]) rfl ?_); (refine wpList_copy_splice rfl (.tmp 89) (.tmp 90) 24 24 rfl 3 Try.underlying24 hsI _ _ _ _ _ _ rfl rfl gg a1 cur 3 HCUR.out (encs (Value.int .i64) g) ?g2 ?g3 ?g4 ?g7 w17.heap.size w17 HB20.out HGE.out ?_; (case g7 => exact encsT_one g); (case g2 => have := HNN.out; rw [encs_length]; exact (Nat.min_eq_left (by omega)).symm); (case g3 => intro hp; rw [encs_length] at hp; have h_ := HDP.out gg cg (by have := HNN.out; have := HCGE.out; omega); obtain ⟨ad, e, hs⟩ := srcT (Kd.R_reads' (Kd.R_below HCGT.out HB20.out)).2.2 hp; exact ⟨h_, ad, e, hs⟩); (case g4 => have := HNN.out; have := HCL.out; rw [encs_length]; omega); intro w21 hG21 hb21; have HB21 := M_ hb21; have HALL := M_ (all_block hG21.out HCT.out HNN.out.2.2.2.2 HCL.out HNN.out.2.1); clear hG21 hb21))
     clear y0 hcut eN eA
     have HX21 := M_ (HXT.out.below HB21.out)
     have y0 := (blk_cell HX21.out.hc 0).trans (show _ = some (.int .i64 a0_0) from rfl)
     have y1 := (blk_cell HX21.out.hc 1).trans (show _ = some (.slice A0_1 l0_1.length c0_1) from rfl)
     have y2 := (blk_cell HX21.out.hc 2).trans (show _ = some (.slice A0_2 l0_2.length c0_2) from rfl)
     have y3 := (blk_cell HX21.out.hc 3).trans (show _ = some (.slice A0_3 l0_3.length c0_3) from rfl)
     have y4 := (blk_cell HX21.out.hc 4).trans (show _ = some (.slice A0_4 l0_4.length c0_4) from rfl)
     go_upto_region 20 with (go_at_call 56; (with_reducible refine (tbuild_calls a0_0 A0_1 c0_1 l0_1 A0_2 c0_2 l0_2 A0_3 c0_3 l0_3 A0_4 c0_4 l0_4 (some ⟨gg, 0, none⟩) cg NN (splice (List.replicate NN (-1)) a1 g) x1 X1 X2 X3 X4 X5 x6 _ (Kd.C_below HR0_1.out HX21.out.hb) HC0_1.out (Kd.C_below HR0_2.out HX21.out.hb) HC0_2.out (Kd.C_below HR0_3.out HX21.out.hb) HC0_3.out (Kd.C_below HR0_4.out HX21.out.hb) HC0_4.out HALL.out.2 (by rw [HALL.out.1]; exact HCGE.out) HALL.out.1 HBU.out).mono ?_); rintro e w22 ⟨v1, v2, v3, v4, v5, rfl, o1, o2, o3, o4, hb⟩; have HX22 := M_ (HX21.out.below hb); obtain ⟨A1, c1, rfl⟩ := Kd.R_slice o1; obtain ⟨A2, c2, rfl⟩ := Kd.R_slice o2; obtain ⟨A3, c3, rfl⟩ := Kd.R_slice o3; obtain ⟨A4, c4, rfl⟩ := Kd.R_slice o4; have hg_ := HX21.out.gn.2.2; have hw_ := below_size HX21.out.hb; have O1 := M_ (Kd.R_lower o1 hw_); have O2 := M_ (Kd.R_lower (Kd.R_mono (Kd.R_bound o2) (fun k hk => (Nat.le_trans hg_ hk.2.1 : w15.heap.size ≤ k))) hw_); have O3 := M_ (Kd.R_lower (Kd.R_mono (Kd.R_bound o3) (fun k hk => (⟨hk.1.1, Nat.le_trans hg_ hk.2.1⟩ : _ ∧ w15.heap.size ≤ k))) hw_); have O4 := M_ (Kd.R_lower (Kd.R_mono (Kd.R_bound o4) (fun k hk => (⟨hk.1.1, Nat.le_trans hg_ hk.2.1⟩ : _ ∧ w15.heap.size ≤ k))) hw_); clear o1 o2 o3 o4 hb hg_ hw_)
     clear y0 y1 y2 y3 y4
     have hbx := below_alloc (Below.refl w22.heap.size w22) (.cells #[.int .i64 x1, .slice A1 X1.length c1, .slice A2 X2.length c2, .slice A3 X3.length c3, .slice A4 X4.length c4] 26)
     have HXX := M_ (heap_alloc_new w22 (.cells #[.int .i64 x1, .slice A1 X1.length c1, .slice A2 X2.length c2, .slice A3 X3.length c3, .slice A4 X4.length c4] 26))
     have HX23 := M_ (HX22.out.below hbx)
     have O1 := M_ (Kd.R_below O1.out hbx)
     have O2 := M_ (Kd.R_below O2.out hbx)
     have O3 := M_ (Kd.R_below O3.out hbx)
     have O4 := M_ (Kd.R_below O4.out hbx)
     clear hbx
     generalize w22.heap.size = bx at HXX ⊢
     generalize w22.alloc (.cells #[.int .i64 x1, .slice A1 X1.length c1, .slice A2 X2.length c2, .slice A3 X3.length c3, .slice A4 X4.length c4] 26) = w23 at HXX HX23 O1 O2 O3 O4 ⊢
     have sa0 := (blk_cell HXX.out 0).trans (show _ = some (.int .i64 x1) from rfl)
     have sa1 := (blk_cell HXX.out 1).trans (show _ = some (.slice A1 X1.length c1) from rfl)
     have sa2 := (blk_cell HXX.out 2).trans (show _ = some (.slice A2 X2.length c2) from rfl)
     have sa3 := (blk_cell HXX.out 3).trans (show _ = some (.slice A3 X3.length c3) from rfl)
     have sa4 := (blk_cell HXX.out 4).trans (show _ = some (.slice A4 X4.length c4) from rfl)
     have sb0 := (blk_cell HX23.out.hi 0).trans (show _ = some (.int .i64 s6) from rfl)
     have sb1 := (blk_cell HX23.out.hi 1).trans (show _ = some (.int .i64 s7) from rfl)
     have sb2 := (blk_cell HX23.out.hi 2).trans (show _ = some (.slice A7 X7.length c7) from rfl)
     have sb3 := (blk_cell HX23.out.hi 3).trans (show _ = some (.slice A8 X8.length c8) from rfl)
     have sb4 := (blk_cell HX23.out.hi 4).trans (show _ = some (.slice A9 X9.length c9) from rfl)
     have sb5 := (blk_cell HX23.out.hi 5).trans (show _ = some (.slice AF XF.length cF) from rfl)
     have sb6 := (blk_cell HX23.out.hi 6).trans (show _ = some (.int .i64 fl) from rfl)
     have sc0 := (blk_cell HX23.out.hr 0).trans (show _ = some (.int .i64 0) from rfl)
     have sd0 := blk_frozen HX23.out.hr 0
     have sc1 := (blk_cell HX23.out.hr 1).trans (show _ = some (.slice none 0 0) from rfl)
     have sd1 := blk_frozen HX23.out.hr 1
     have sc2 := (blk_cell HX23.out.hr 2).trans (show _ = some (.slice none 0 0) from rfl)
     have sd2 := blk_frozen HX23.out.hr 2
     have sc3 := (blk_cell HX23.out.hr 3).trans (show _ = some (.slice none 0 0) from rfl)
     have sd3 := blk_frozen HX23.out.hr 3
     have sc4 := (blk_cell HX23.out.hr 4).trans (show _ = some (.slice none 0 0) from rfl)
     have sd4 := blk_frozen HX23.out.hr 4
     have sc5 := (blk_cell HX23.out.hr 5).trans (show _ = some (.int .i64 0) from rfl)
     have sd5 := blk_frozen HX23.out.hr 5
     have sc6 := (blk_cell HX23.out.hr 6).trans (show _ = some (.int .i64 0) from rfl)
     have sd6 := blk_frozen HX23.out.hr 6
     have sc7 := (blk_cell HX23.out.hr 7).trans (show _ = some (.slice none 0 0) from rfl)
     have sd7 := blk_frozen HX23.out.hr 7
     have sc8 := (blk_cell HX23.out.hr 8).trans (show _ = some (.slice none 0 0) from rfl)
     have sd8 := blk_frozen HX23.out.hr 8
     have sc9 := (blk_cell HX23.out.hr 9).trans (show _ = some (.slice none 0 0) from rfl)
     have sd9 := blk_frozen HX23.out.hr 9
     have sc10 := (blk_cell HX23.out.hr 10).trans (show _ = some (.slice none 0 0) from rfl)
     have sd10 := blk_frozen HX23.out.hr 10
     have sc11 := (blk_cell HX23.out.hr 11).trans (show _ = some (.int .i64 0) from rfl)
     have sd11 := blk_frozen HX23.out.hr 11
     go_wp2
     (try simp only [Exit.inBlock, Exit.then]); refine bodyPost_ret (results_list (rs := [.cell 2 48, .tmp 3]) rfl (by simp) (.cell (w.heap.size + 1) 48 #[.int .i64 x1, .slice A1 X1.length c1, .slice A2 X2.length c2, .slice A3 X3.length c3, .slice A4 X4.length c4, .int .i64 s6, .int .i64 s7, .slice A7 X7.length c7, .slice A8 X8.length c8, .slice A9 X9.length c9, .slice AF XF.length cF, .int .i64 fl] (0, 0) _ rfl (putAllT_blk [.int .i64 x1, .slice A1 X1.length c1, .slice A2 X2.length c2, .slice A3 X3.length c3, .slice A4 X4.length c4, .int .i64 s6, .int .i64 s7, .slice A7 X7.length c7, .slice A8 X8.length c8, .slice A9 X9.length c9, .slice AF XF.length cF, .int .i64 fl] [] [.int .i64 0, .slice none 0 0, .slice none 0 0, .slice none 0 0, .slice none 0 0, .int .i64 0, .int .i64 0, .slice none 0 0, .slice none 0 0, .slice none 0 0, .slice none 0 0, .int .i64 0] w23 HX23.out.hr rfl) Try.underlying48 rfl (by kernel_rfl) (.tmp .nil))) rfl ?_
     have HP := PB.rows HX23.out O1.out O2.out O3.out O4.out
     have HQ := putAllT_PZ [.int .i64 x1, .slice A1 X1.length c1, .slice A2 X2.length c2, .slice A3 X3.length c3, .slice A4 X4.length c4, .int .i64 s6, .int .i64 s7, .slice A7 X7.length c7, .slice A8 X8.length c8, .slice A9 X9.length c9, .slice AF XF.length cF, .int .i64 fl] 0 w23 _ HX23.out.hr HP
     have HW := putAllT_below (Nat.le_succ _) [.int .i64 x1, .slice A1 X1.length c1, .slice A2 X2.length c2, .slice A3 X3.length c3, .slice A4 X4.length c4, .int .i64 s6, .int .i64 s7, .slice A7 X7.length c7, .slice A8 X8.length c8, .slice A9 X9.length c9, .slice AF XF.length cF, .int .i64 fl] 0 w23 HX23.out.hb
     simp only [putAllT, Nat.zero_add, Nat.reduceAdd] at HQ HW
     have h_ := HRR.out
     simp only [Option.some.injEq, Prod.mk.injEq] at h_
     obtain ⟨rfl, rfl, rfl, rfl, rfl, rfl, rfl, rfl, rfl, rfl, rfl, rfl, rfl⟩ := h_
     exact ⟨_, _, _, _, _, _, _, _, rfl, HQ.r1, HQ.r2, HQ.r3, HQ.r4, HQ.r7, HQ.r8, HQ.r9, HQ.rA, HW⟩
    ·have c1_ : (ce != 0) = true := bne_iff_ne.mpr cce
     have HFF2 := M_ ((if_neg cce).symm.trans HFF.out)
     clear HFF
     go_upto_region 15 with (go_at_call 54; (with_reducible refine (preds_Check.calls k (l0_1.length : Int) AF cF XF fl ce _ (Kd.R_reads' RF15.out).2.2 (Kd.R_reads' RF15.out).2.1 HCE.out).mono ?_); rintro e w16 ⟨rfl, hb⟩; have HB16 := M_ hb; clear hb)
     clear y1 p0 p1
     have HX16 := M_ (HX15.out.below HB16.out)
     have R16_1 := M_ (Kd.R_below R15_1.out HB16.out)
     have R16_2 := M_ (Kd.R_below R15_2.out HB16.out)
     have R16_3 := M_ (Kd.R_below R15_3.out HB16.out)
     have R16_4 := M_ (Kd.R_below R15_4.out HB16.out)
     have sa0 := (blk_cell HX16.out.hs 0).trans (show _ = some (.int .i64 a0_0) from rfl)
     have sa1 := (blk_cell HX16.out.hs 1).trans (show _ = some (.slice A1 l0_1.length c1) from rfl)
     have sa2 := (blk_cell HX16.out.hs 2).trans (show _ = some (.slice A2 l0_2.length c2) from rfl)
     have sa3 := (blk_cell HX16.out.hs 3).trans (show _ = some (.slice A3 l0_3.length c3) from rfl)
     have sa4 := (blk_cell HX16.out.hs 4).trans (show _ = some (.slice A4 l0_4.length c4) from rfl)
     have sb0 := (blk_cell HX16.out.hi 0).trans (show _ = some (.int .i64 s6) from rfl)
     have sb1 := (blk_cell HX16.out.hi 1).trans (show _ = some (.int .i64 s7) from rfl)
     have sb2 := (blk_cell HX16.out.hi 2).trans (show _ = some (.slice A7 X7.length c7) from rfl)
     have sb3 := (blk_cell HX16.out.hi 3).trans (show _ = some (.slice A8 X8.length c8) from rfl)
     have sb4 := (blk_cell HX16.out.hi 4).trans (show _ = some (.slice A9 X9.length c9) from rfl)
     have sb5 := (blk_cell HX16.out.hi 5).trans (show _ = some (.slice AA XA.length cA) from rfl)
     have sb6 := (blk_cell HX16.out.hi 6).trans (show _ = some (.int .i64 lit) from rfl)
     have sc0 := (blk_cell HX16.out.hr 0).trans (show _ = some (.int .i64 0) from rfl)
     have sd0 := blk_frozen HX16.out.hr 0
     have sc1 := (blk_cell HX16.out.hr 1).trans (show _ = some (.slice none 0 0) from rfl)
     have sd1 := blk_frozen HX16.out.hr 1
     have sc2 := (blk_cell HX16.out.hr 2).trans (show _ = some (.slice none 0 0) from rfl)
     have sd2 := blk_frozen HX16.out.hr 2
     have sc3 := (blk_cell HX16.out.hr 3).trans (show _ = some (.slice none 0 0) from rfl)
     have sd3 := blk_frozen HX16.out.hr 3
     have sc4 := (blk_cell HX16.out.hr 4).trans (show _ = some (.slice none 0 0) from rfl)
     have sd4 := blk_frozen HX16.out.hr 4
     have sc5 := (blk_cell HX16.out.hr 5).trans (show _ = some (.int .i64 0) from rfl)
     have sd5 := blk_frozen HX16.out.hr 5
     have sc6 := (blk_cell HX16.out.hr 6).trans (show _ = some (.int .i64 0) from rfl)
     have sd6 := blk_frozen HX16.out.hr 6
     have sc7 := (blk_cell HX16.out.hr 7).trans (show _ = some (.slice none 0 0) from rfl)
     have sd7 := blk_frozen HX16.out.hr 7
     have sc8 := (blk_cell HX16.out.hr 8).trans (show _ = some (.slice none 0 0) from rfl)
     have sd8 := blk_frozen HX16.out.hr 8
     have sc9 := (blk_cell HX16.out.hr 9).trans (show _ = some (.slice none 0 0) from rfl)
     have sd9 := blk_frozen HX16.out.hr 9
     have sc10 := (blk_cell HX16.out.hr 10).trans (show _ = some (.slice none 0 0) from rfl)
     have sd10 := blk_frozen HX16.out.hr 10
     have sc11 := (blk_cell HX16.out.hr 11).trans (show _ = some (.int .i64 0) from rfl)
     have sd11 := blk_frozen HX16.out.hr 11
     go_wp2
     (try simp only [Exit.inBlock, Exit.then]); refine bodyPost_ret (results_list (rs := [.cell 2 48, .tmp 3]) rfl (by simp) (.cell (w.heap.size + 1) 48 #[.int .i64 a0_0, .slice A1 l0_1.length c1, .slice A2 l0_2.length c2, .slice A3 l0_3.length c3, .slice A4 l0_4.length c4, .int .i64 s6, .int .i64 s7, .slice A7 X7.length c7, .slice A8 X8.length c8, .slice A9 X9.length c9, .slice AA XA.length cA, .int .i64 lit] (0, 0) _ rfl (putAllT_blk [.int .i64 a0_0, .slice A1 l0_1.length c1, .slice A2 l0_2.length c2, .slice A3 l0_3.length c3, .slice A4 l0_4.length c4, .int .i64 s6, .int .i64 s7, .slice A7 X7.length c7, .slice A8 X8.length c8, .slice A9 X9.length c9, .slice AA XA.length cA, .int .i64 lit] [] [.int .i64 0, .slice none 0 0, .slice none 0 0, .slice none 0 0, .slice none 0 0, .int .i64 0, .int .i64 0, .slice none 0 0, .slice none 0 0, .slice none 0 0, .slice none 0 0, .int .i64 0] w16 HX16.out.hr rfl) Try.underlying48 rfl (by kernel_rfl) (.tmp .nil))) rfl ?_
     have HP := PB.rows HX16.out (Kd.R_mono (Kd.R_lower R16_1.out HX16.out.gn.1) (fun _ _ => trivial)) (Kd.R_lower R16_2.out HX16.out.gn.1) R16_3.out R16_4.out
     have HQ := putAllT_PZ [.int .i64 a0_0, .slice A1 l0_1.length c1, .slice A2 l0_2.length c2, .slice A3 l0_3.length c3, .slice A4 l0_4.length c4, .int .i64 s6, .int .i64 s7, .slice A7 X7.length c7, .slice A8 X8.length c8, .slice A9 X9.length c9, .slice AA XA.length cA, .int .i64 lit] 0 w16 _ HX16.out.hr HP
     have HW := putAllT_below (Nat.le_succ _) [.int .i64 a0_0, .slice A1 l0_1.length c1, .slice A2 l0_2.length c2, .slice A3 l0_3.length c3, .slice A4 l0_4.length c4, .int .i64 s6, .int .i64 s7, .slice A7 X7.length c7, .slice A8 X8.length c8, .slice A9 X9.length c9, .slice AA XA.length cA, .int .i64 lit] 0 w16 HX16.out.hb
     simp only [putAllT, Nat.zero_add, Nat.reduceAdd] at HQ HW
     have h_ := HFF2.out
     simp only [Option.some.injEq, Prod.mk.injEq] at h_
     obtain ⟨rfl, rfl, rfl, rfl, rfl, rfl, rfl, rfl, rfl, rfl, rfl, rfl, rfl⟩ := h_
     exact ⟨_, _, _, _, _, _, _, _, rfl, HQ.r1, HQ.r2, HQ.r3, HQ.r4, HQ.r7, HQ.r8, HQ.r9, HQ.rA, HW⟩
   ·have cb : decide (0 ≤ m) = false := decide_eq_false cm0
    have cb2 : decide (m ≥ 0) = false := decide_eq_false cm0
    have HM3 := M_ ((if_neg cm0).symm.trans HM2.out)
    clear HM2 cm0
    go_upto_region 17 with (first | ((with_reducible refine gate_builtin (b := .append) (xs := #[.tmp 60, .tmp 61]) rfl ?_); at_builtin; refine app_keep (w0 := w10) w10.heap.size rfl (.tmp 60) (.tmp 61) 24 3 8 rfl Try.underlying24 info3 (by decide) Ag cg g (-1) (fun _ => True) rfl rfl RG.out HB11.out (below_size HB11.out) (by have := HK2.out; omega) ?_; intro Am cm w12 hc1 hl1 hc2 hb; have HCM := M_ hc1; have HLM := M_ hl1; obtain ⟨cg2, hc2⟩ := hc2; have HCG := M_ hc2; have HB12 := M_ hb; clear hc1 hl1 hc2 hb) | (go_at_call 52; (with_reducible refine (tmax_calls k Am cm g m _ HCM.out HLM.out HM.out).mono ?_); rintro e w13 ⟨rfl, hb⟩; have HB13 := M_ (below_step HB12.out hb); have HCG13 := M_ (Kd.R_below HCG.out hb); clear hb))
    have HX13 := M_ (HX10.out.below HB13.out)
    clear HX10 R10_1 R10_2 R10_3 R10_4 RL HB13 HB12 HB11 HCM HLM HCG RG RG' HM
    have HXT := HX13
    have HCGT := HCG13
    obtain ⟨NN, hNN⟩ : ∃ N : Nat, N = (n + 1).toNat := ⟨_, rfl⟩
    obtain ⟨a1, ha1⟩ : ∃ N : Nat, N = (a0_0 + 1).toNat := ⟨_, rfl⟩
    have HNN : Aside0 (1 ≤ NN ∧ NN ≤ 60000 ∧ (NN : Int) = n + 1 ∧ (a1 : Int) = a0_0 + 1 ∧ a1 + g.length ≤ NN) := ⟨by have := HK2.out; refine ⟨?_, ?_, ?_, ?_, ?_⟩ <;> omega⟩
    obtain ⟨⟨x1, X1, X2, X3, X4, X5, x6⟩, hb_, hr_⟩ := Option.bind_eq_some_iff.1 (HM3.out)
    have HBU : Aside0 (hash_Build.f a0_0 l0_1 l0_2 l0_3 l0_4 (splice (List.replicate NN (-1)) a1 g) = some (x1, X1, X2, X3, X4, X5, x6)) := ⟨by rw [hNN, ha1]; exact hb_⟩
    have HRR := M_ hr_
    clear hb_ hr_ hNN ha1
    have eN : wrap64 (n + 1) = (NN : Int) := by have := HNN.out; have := HK2.out; unfold wrap64; omega
    have eA : wrap64 (a0_0 + 1) = (a1 : Int) := by have := HNN.out; have := HK2.out; unfold wrap64; omega
    have hsI : (Try.prog.info? 3).map (·.size) = some 1 := by kernel_rfl
    obtain ⟨dp, hdp, hcut0⟩ : ∃ dp : Nat → Nat → Option Addr, (∀ gg cg, a1 < cg → dp gg cg = some ⟨gg, a1, none⟩) ∧ ∀ gg cg, NN ≤ cg → ∀ W : World, (Instr.slice 24 (.slice (some ⟨gg, 0, none⟩) NN cg) (some (.int .i64 (a1 : Int))) none none).run Try.prog W = .ok (.slice (dp gg cg) (NN - a1) (cg - a1)) W := cutT NN a1 (by have := HNN.out; omega)
    have HDP := M_ hdp
    have HCUT := M_ hcut0
    clear hdp hcut0
    go_upto_region 18 with (go_at_call 55; (with_reducible refine (rep1T_calls w13 NN HNN.out.1 HNN.out.2.1).mono ?_); rintro e w20 ⟨gg, cg, rfl, oR, hge, hb⟩; have HB20 := M_ hb; have HGE := M_ hge; obtain ⟨cur, hcur, hcl, hct, hcg⟩ := row_block oR (by have := HNN.out; omega) (by rw [List.length_replicate]); have HCUR := M_ hcur; have HCL := M_ hcl; have HCT := M_ hct; have HCGE := M_ hcg; have hcut := HCUT.out gg cg hcg; have y0 := (blk_cell (blk_below HXT.out.hc hb) 0).trans (show _ = some (.int .i64 a0_0) from rfl); clear oR hge hb hcur hcl hct hcg)
    go_upto_region 19 with ((with_reducible refine gate_builtin (b := .copy) (xs := #[.tmp 89, .tmp 90]) rfl ?_); (refine wpList_copy_splice rfl (.tmp 89) (.tmp 90) 24 24 rfl 3 Try.underlying24 hsI _ _ _ _ _ _ rfl rfl gg a1 cur 3 HCUR.out (encs (Value.int .i64) g) ?g2 ?g3 ?g4 ?g7 w13.heap.size w13 HB20.out HGE.out ?_; (case g7 => exact encsT_one g); (case g2 => have := HNN.out; rw [encs_length]; exact (Nat.min_eq_left (by omega)).symm); (case g3 => intro hp; rw [encs_length] at hp; have h_ := HDP.out gg cg (by have := HNN.out; have := HCGE.out; omega); obtain ⟨ad, e, hs⟩ := srcT (Kd.R_reads' (Kd.R_below HCGT.out HB20.out)).2.2 hp; exact ⟨h_, ad, e, hs⟩); (case g4 => have := HNN.out; have := HCL.out; rw [encs_length]; omega); intro w21 hG21 hb21; have HB21 := M_ hb21; have HALL := M_ (all_block hG21.out HCT.out HNN.out.2.2.2.2 HCL.out HNN.out.2.1); clear hG21 hb21))
    clear y0 hcut eN eA
    have HX21 := M_ (HXT.out.below HB21.out)
    have y0 := (blk_cell HX21.out.hc 0).trans (show _ = some (.int .i64 a0_0) from rfl)
    have y1 := (blk_cell HX21.out.hc 1).trans (show _ = some (.slice A0_1 l0_1.length c0_1) from rfl)
    have y2 := (blk_cell HX21.out.hc 2).trans (show _ = some (.slice A0_2 l0_2.length c0_2) from rfl)
    have y3 := (blk_cell HX21.out.hc 3).trans (show _ = some (.slice A0_3 l0_3.length c0_3) from rfl)
    have y4 := (blk_cell HX21.out.hc 4).trans (show _ = some (.slice A0_4 l0_4.length c0_4) from rfl)
    go_upto_region 20 with (go_at_call 56; (with_reducible refine (tbuild_calls a0_0 A0_1 c0_1 l0_1 A0_2 c0_2 l0_2 A0_3 c0_3 l0_3 A0_4 c0_4 l0_4 (some ⟨gg, 0, none⟩) cg NN (splice (List.replicate NN (-1)) a1 g) x1 X1 X2 X3 X4 X5 x6 _ (Kd.C_below HR0_1.out HX21.out.hb) HC0_1.out (Kd.C_below HR0_2.out HX21.out.hb) HC0_2.out (Kd.C_below HR0_3.out HX21.out.hb) HC0_3.out (Kd.C_below HR0_4.out HX21.out.hb) HC0_4.out HALL.out.2 (by rw [HALL.out.1]; exact HCGE.out) HALL.out.1 HBU.out).mono ?_); rintro e w22 ⟨v1, v2, v3, v4, v5, rfl, o1, o2, o3, o4, hb⟩; have HX22 := M_ (HX21.out.below hb); obtain ⟨A1, c1, rfl⟩ := Kd.R_slice o1; obtain ⟨A2, c2, rfl⟩ := Kd.R_slice o2; obtain ⟨A3, c3, rfl⟩ := Kd.R_slice o3; obtain ⟨A4, c4, rfl⟩ := Kd.R_slice o4; have hg_ := HX21.out.gn.2.2; have hw_ := below_size HX21.out.hb; have O1 := M_ (Kd.R_lower o1 hw_); have O2 := M_ (Kd.R_lower (Kd.R_mono (Kd.R_bound o2) (fun k hk => (Nat.le_trans hg_ hk.2.1 : N ≤ k))) hw_); have O3 := M_ (Kd.R_lower (Kd.R_mono (Kd.R_bound o3) (fun k hk => (⟨hk.1.1, Nat.le_trans hg_ hk.2.1⟩ : _ ∧ N ≤ k))) hw_); have O4 := M_ (Kd.R_lower (Kd.R_mono (Kd.R_bound o4) (fun k hk => (⟨hk.1.1, Nat.le_trans hg_ hk.2.1⟩ : _ ∧ N ≤ k))) hw_); clear o1 o2 o3 o4 hb hg_ hw_)
    clear y0 y1 y2 y3 y4
    have hbx := below_alloc (Below.refl w22.heap.size w22) (.cells #[.int .i64 x1, .slice A1 X1.length c1, .slice A2 X2.length c2, .slice A3 X3.length c3, .slice A4 X4.length c4] 26)
    have HXX := M_ (heap_alloc_new w22 (.cells #[.int .i64 x1, .slice A1 X1.length c1, .slice A2 X2.length c2, .slice A3 X3.length c3, .slice A4 X4.length c4] 26))
    have HX23 := M_ (HX22.out.below hbx)
    have O1 := M_ (Kd.R_below O1.out hbx)
    have O2 := M_ (Kd.R_below O2.out hbx)
    have O3 := M_ (Kd.R_below O3.out hbx)
    have O4 := M_ (Kd.R_below O4.out hbx)
    clear hbx
    generalize w22.heap.size = bx at HXX ⊢
    generalize w22.alloc (.cells #[.int .i64 x1, .slice A1 X1.length c1, .slice A2 X2.length c2, .slice A3 X3.length c3, .slice A4 X4.length c4] 26) = w23 at HXX HX23 O1 O2 O3 O4 ⊢
    have sa0 := (blk_cell HXX.out 0).trans (show _ = some (.int .i64 x1) from rfl)
    have sa1 := (blk_cell HXX.out 1).trans (show _ = some (.slice A1 X1.length c1) from rfl)
    have sa2 := (blk_cell HXX.out 2).trans (show _ = some (.slice A2 X2.length c2) from rfl)
    have sa3 := (blk_cell HXX.out 3).trans (show _ = some (.slice A3 X3.length c3) from rfl)
    have sa4 := (blk_cell HXX.out 4).trans (show _ = some (.slice A4 X4.length c4) from rfl)
    have sb0 := (blk_cell HX23.out.hi 0).trans (show _ = some (.int .i64 s6) from rfl)
    have sb1 := (blk_cell HX23.out.hi 1).trans (show _ = some (.int .i64 s7) from rfl)
    have sb2 := (blk_cell HX23.out.hi 2).trans (show _ = some (.slice A7 X7.length c7) from rfl)
    have sb3 := (blk_cell HX23.out.hi 3).trans (show _ = some (.slice A8 X8.length c8) from rfl)
    have sb4 := (blk_cell HX23.out.hi 4).trans (show _ = some (.slice A9 X9.length c9) from rfl)
    have sb5 := (blk_cell HX23.out.hi 5).trans (show _ = some (.slice AA XA.length cA) from rfl)
    have sb6 := (blk_cell HX23.out.hi 6).trans (show _ = some (.int .i64 lit) from rfl)
    have sc0 := (blk_cell HX23.out.hr 0).trans (show _ = some (.int .i64 0) from rfl)
    have sd0 := blk_frozen HX23.out.hr 0
    have sc1 := (blk_cell HX23.out.hr 1).trans (show _ = some (.slice none 0 0) from rfl)
    have sd1 := blk_frozen HX23.out.hr 1
    have sc2 := (blk_cell HX23.out.hr 2).trans (show _ = some (.slice none 0 0) from rfl)
    have sd2 := blk_frozen HX23.out.hr 2
    have sc3 := (blk_cell HX23.out.hr 3).trans (show _ = some (.slice none 0 0) from rfl)
    have sd3 := blk_frozen HX23.out.hr 3
    have sc4 := (blk_cell HX23.out.hr 4).trans (show _ = some (.slice none 0 0) from rfl)
    have sd4 := blk_frozen HX23.out.hr 4
    have sc5 := (blk_cell HX23.out.hr 5).trans (show _ = some (.int .i64 0) from rfl)
    have sd5 := blk_frozen HX23.out.hr 5
    have sc6 := (blk_cell HX23.out.hr 6).trans (show _ = some (.int .i64 0) from rfl)
    have sd6 := blk_frozen HX23.out.hr 6
    have sc7 := (blk_cell HX23.out.hr 7).trans (show _ = some (.slice none 0 0) from rfl)
    have sd7 := blk_frozen HX23.out.hr 7
    have sc8 := (blk_cell HX23.out.hr 8).trans (show _ = some (.slice none 0 0) from rfl)
    have sd8 := blk_frozen HX23.out.hr 8
    have sc9 := (blk_cell HX23.out.hr 9).trans (show _ = some (.slice none 0 0) from rfl)
    have sd9 := blk_frozen HX23.out.hr 9
    have sc10 := (blk_cell HX23.out.hr 10).trans (show _ = some (.slice none 0 0) from rfl)
    have sd10 := blk_frozen HX23.out.hr 10
    have sc11 := (blk_cell HX23.out.hr 11).trans (show _ = some (.int .i64 0) from rfl)
    have sd11 := blk_frozen HX23.out.hr 11
    go_wp2
    (try simp only [Exit.inBlock, Exit.then]); refine bodyPost_ret (results_list (rs := [.cell 2 48, .tmp 3]) rfl (by simp) (.cell (w.heap.size + 1) 48 #[.int .i64 x1, .slice A1 X1.length c1, .slice A2 X2.length c2, .slice A3 X3.length c3, .slice A4 X4.length c4, .int .i64 s6, .int .i64 s7, .slice A7 X7.length c7, .slice A8 X8.length c8, .slice A9 X9.length c9, .slice AA XA.length cA, .int .i64 lit] (0, 0) _ rfl (putAllT_blk [.int .i64 x1, .slice A1 X1.length c1, .slice A2 X2.length c2, .slice A3 X3.length c3, .slice A4 X4.length c4, .int .i64 s6, .int .i64 s7, .slice A7 X7.length c7, .slice A8 X8.length c8, .slice A9 X9.length c9, .slice AA XA.length cA, .int .i64 lit] [] [.int .i64 0, .slice none 0 0, .slice none 0 0, .slice none 0 0, .slice none 0 0, .int .i64 0, .int .i64 0, .slice none 0 0, .slice none 0 0, .slice none 0 0, .slice none 0 0, .int .i64 0] w23 HX23.out.hr rfl) Try.underlying48 rfl (by kernel_rfl) (.tmp .nil))) rfl ?_
    have HP := PB.rows HX23.out O1.out O2.out O3.out O4.out
    have HQ := putAllT_PZ [.int .i64 x1, .slice A1 X1.length c1, .slice A2 X2.length c2, .slice A3 X3.length c3, .slice A4 X4.length c4, .int .i64 s6, .int .i64 s7, .slice A7 X7.length c7, .slice A8 X8.length c8, .slice A9 X9.length c9, .slice AA XA.length cA, .int .i64 lit] 0 w23 _ HX23.out.hr HP
    have HW := putAllT_below (Nat.le_succ _) [.int .i64 x1, .slice A1 X1.length c1, .slice A2 X2.length c2, .slice A3 X3.length c3, .slice A4 X4.length c4, .int .i64 s6, .int .i64 s7, .slice A7 X7.length c7, .slice A8 X8.length c8, .slice A9 X9.length c9, .slice AA XA.length cA, .int .i64 lit] 0 w23 HX23.out.hb
    simp only [putAllT, Nat.zero_add, Nat.reduceAdd] at HQ HW
    have h_ := HRR.out
    simp only [Option.some.injEq, Prod.mk.injEq] at h_
    obtain ⟨rfl, rfl, rfl, rfl, rfl, rfl, rfl, rfl, rfl, rfl, rfl, rfl, rfl⟩ := h_
    exact ⟨_, _, _, _, _, _, _, _, rfl, HQ.r1, HQ.r2, HQ.r3, HQ.r4, HQ.r7, HQ.r8, HQ.r9, HQ.rA, HW⟩
  ·rw [if_neg ck] at hG
   cases hG
 ·have ce1 : (eS != 0) = true := bne_iff_ne.mpr ce
  have HFF2 := M_ ((if_neg ce).symm.trans HH.out)
  clear HH ce
  go_upto_region 10 with fail
  have sa0 := (blk_cell HX10.out.hs 0).trans (show _ = some (.int .i64 a0_0) from rfl)
  have sa1 := (blk_cell HX10.out.hs 1).trans (show _ = some (.slice A1 l0_1.length c1) from rfl)
  have sa2 := (blk_cell HX10.out.hs 2).trans (show _ = some (.slice A2 l0_2.length c2) from rfl)
  have sa3 := (blk_cell HX10.out.hs 3).trans (show _ = some (.slice A3 l0_3.length c3) from rfl)
  have sa4 := (blk_cell HX10.out.hs 4).trans (show _ = some (.slice A4 l0_4.length c4) from rfl)
  have sb0 := (blk_cell HX10.out.hi 0).trans (show _ = some (.int .i64 s6) from rfl)
  have sb1 := (blk_cell HX10.out.hi 1).trans (show _ = some (.int .i64 s7) from rfl)
  have sb2 := (blk_cell HX10.out.hi 2).trans (show _ = some (.slice A7 X7.length c7) from rfl)
  have sb3 := (blk_cell HX10.out.hi 3).trans (show _ = some (.slice A8 X8.length c8) from rfl)
  have sb4 := (blk_cell HX10.out.hi 4).trans (show _ = some (.slice A9 X9.length c9) from rfl)
  have sb5 := (blk_cell HX10.out.hi 5).trans (show _ = some (.slice AA XA.length cA) from rfl)
  have sb6 := (blk_cell HX10.out.hi 6).trans (show _ = some (.int .i64 lit) from rfl)
  have sc0 := (blk_cell HX10.out.hr 0).trans (show _ = some (.int .i64 0) from rfl)
  have sd0 := blk_frozen HX10.out.hr 0
  have sc1 := (blk_cell HX10.out.hr 1).trans (show _ = some (.slice none 0 0) from rfl)
  have sd1 := blk_frozen HX10.out.hr 1
  have sc2 := (blk_cell HX10.out.hr 2).trans (show _ = some (.slice none 0 0) from rfl)
  have sd2 := blk_frozen HX10.out.hr 2
  have sc3 := (blk_cell HX10.out.hr 3).trans (show _ = some (.slice none 0 0) from rfl)
  have sd3 := blk_frozen HX10.out.hr 3
  have sc4 := (blk_cell HX10.out.hr 4).trans (show _ = some (.slice none 0 0) from rfl)
  have sd4 := blk_frozen HX10.out.hr 4
  have sc5 := (blk_cell HX10.out.hr 5).trans (show _ = some (.int .i64 0) from rfl)
  have sd5 := blk_frozen HX10.out.hr 5
  have sc6 := (blk_cell HX10.out.hr 6).trans (show _ = some (.int .i64 0) from rfl)
  have sd6 := blk_frozen HX10.out.hr 6
  have sc7 := (blk_cell HX10.out.hr 7).trans (show _ = some (.slice none 0 0) from rfl)
  have sd7 := blk_frozen HX10.out.hr 7
  have sc8 := (blk_cell HX10.out.hr 8).trans (show _ = some (.slice none 0 0) from rfl)
  have sd8 := blk_frozen HX10.out.hr 8
  have sc9 := (blk_cell HX10.out.hr 9).trans (show _ = some (.slice none 0 0) from rfl)
  have sd9 := blk_frozen HX10.out.hr 9
  have sc10 := (blk_cell HX10.out.hr 10).trans (show _ = some (.slice none 0 0) from rfl)
  have sd10 := blk_frozen HX10.out.hr 10
  have sc11 := (blk_cell HX10.out.hr 11).trans (show _ = some (.int .i64 0) from rfl)
  have sd11 := blk_frozen HX10.out.hr 11
  go_wp2
  (try simp only [Exit.inBlock, Exit.then]); refine bodyPost_ret (results_list (rs := [.cell 2 48, .tmp 3]) rfl (by simp) (.cell (w.heap.size + 1) 48 #[.int .i64 a0_0, .slice A1 l0_1.length c1, .slice A2 l0_2.length c2, .slice A3 l0_3.length c3, .slice A4 l0_4.length c4, .int .i64 s6, .int .i64 s7, .slice A7 X7.length c7, .slice A8 X8.length c8, .slice A9 X9.length c9, .slice AA XA.length cA, .int .i64 lit] (0, 0) _ rfl (putAllT_blk [.int .i64 a0_0, .slice A1 l0_1.length c1, .slice A2 l0_2.length c2, .slice A3 l0_3.length c3, .slice A4 l0_4.length c4, .int .i64 s6, .int .i64 s7, .slice A7 X7.length c7, .slice A8 X8.length c8, .slice A9 X9.length c9, .slice AA XA.length cA, .int .i64 lit] [] [.int .i64 0, .slice none 0 0, .slice none 0 0, .slice none 0 0, .slice none 0 0, .int .i64 0, .int .i64 0, .slice none 0 0, .slice none 0 0, .slice none 0 0, .slice none 0 0, .int .i64 0] w10 HX10.out.hr rfl) Try.underlying48 rfl (by kernel_rfl) (.tmp .nil))) rfl ?_
  have HP := PB.rows HX10.out (Kd.R_mono (Kd.R_lower R10_1.out HX10.out.gn.1) (fun _ _ => trivial)) (Kd.R_lower R10_2.out HX10.out.gn.1) R10_3.out R10_4.out
  have HQ := putAllT_PZ [.int .i64 a0_0, .slice A1 l0_1.length c1, .slice A2 l0_2.length c2, .slice A3 l0_3.length c3, .slice A4 l0_4.length c4, .int .i64 s6, .int .i64 s7, .slice A7 X7.length c7, .slice A8 X8.length c8, .slice A9 X9.length c9, .slice AA XA.length cA, .int .i64 lit] 0 w10 _ HX10.out.hr HP
  have HW := putAllT_below (Nat.le_succ _) [.int .i64 a0_0, .slice A1 l0_1.length c1, .slice A2 l0_2.length c2, .slice A3 l0_3.length c3, .slice A4 l0_4.length c4, .int .i64 s6, .int .i64 s7, .slice A7 X7.length c7, .slice A8 X8.length c8, .slice A9 X9.length c9, .slice AA XA.length cA, .int .i64 lit] 0 w10 HX10.out.hb
  simp only [putAllT, Nat.zero_add, Nat.reduceAdd] at HQ HW
  have h_ := HFF2.out
  simp only [Option.some.injEq, Prod.mk.injEq] at h_
  obtain ⟨rfl, rfl, rfl, rfl, rfl, rfl, rfl, rfl, rfl, rfl, rfl, rfl, rfl⟩ := h_
  exact ⟨_, _, _, _, _, _, _, _, rfl, HQ.r1, HQ.r2, HQ.r3, HQ.r4, HQ.r7, HQ.r8, HQ.r9, HQ.rA, HW⟩
theorem ternsim_Pass.calls (k : Nat) (a0_0 : Int) (A0_1 : Option Addr) (c0_1 : Nat) (l0_1 : List (S36)) (A0_2 : Option Addr) (c0_2 : Nat) (l0_2 : List (S69)) (A0_3 : Option Addr) (c0_3 : Nat) (l0_3 : List Int) (A0_4 : Option Addr) (c0_4 : Nat) (l0_4 : List Int) (r1 : Int) (r2 : List (S36)) (r3 : List (S69)) (r4 : List Int) (r5 : List Int) (r6 : Int) (r7 : Int) (r8 : List Int) (r9 : List (List Int)) (r10 : List Int) (r11 : List (S69)) (r12 : Int) (r13 : Int) (w : World) (hr0_1 : Kd.C k36 w A0_1 l0_1.length l0_1) (hc0_1 : l0_1.length ≤ c0_1) (hr0_2 : Kd.C k69 w A0_2 l0_2.length l0_2) (hc0_2 : l0_2.length ≤ c0_2) (hr0_3 : Kd.C (Kd.int .i64) w A0_3 l0_3.length l0_3) (hc0_3 : l0_3.length ≤ c0_3) (hr0_4 : Kd.C (Kd.int .i64) w A0_4 l0_4.length l0_4) (hc0_4 : l0_4.length ≤ c0_4) (h : ternsim_Pass.f k a0_0 l0_1 l0_2 l0_3 l0_4 = some (r1, r2, r3, r4, r5, r6, r7, r8, r9, r10, r11, r12, r13)) :
  Calls Try.prog 16 #[.agg #[.int .i64 a0_0, .slice A0_1 l0_1.length c0_1, .slice A0_2 l0_2.length c0_2, .slice A0_3 l0_3.length c0_3, .slice A0_4 l0_4.length c0_4]] w fun e w' => ∃ v1_ v2_ v3_ v4_ v7_ v8_ v9_ v10_ : Value, e = .returned (.tuple #[.agg #[.int .i64 r1, v1_, v2_, v3_, v4_, .int .i64 r6, .int .i64 r7, v7_, v8_, v9_, v10_, .int .i64 r12], .int .i64 r13]) ∧ Kd.R k36 36 w' w.heap.size (fun _ => True) v1_ r2 ∧ Kd.R k69 69 w' w.heap.size (fun k_ => some k_ ≠ (v10_ : Value).ownBlock) v2_ r3 ∧ Kd.R (Kd.int .i64) 3 w' w.heap.size (fun k_ => some k_ ≠ (v4_ : Value).ownBlock ∧ some k_ ≠ (v7_ : Value).ownBlock ∧ some k_ ≠ (v9_ : Value).ownBlock) v3_ r4 ∧ Kd.R (Kd.int .i64) 3 w' w.heap.size (fun k_ => some k_ ≠ (v3_ : Value).ownBlock ∧ some k_ ≠ (v7_ : Value).ownBlock ∧ some k_ ≠ (v9_ : Value).ownBlock) v4_ r5 ∧ Kd.R (Kd.int .i64) 3 w' w.heap.size (fun k_ => some k_ ≠ (v3_ : Value).ownBlock ∧ some k_ ≠ (v4_ : Value).ownBlock ∧ some k_ ≠ (v9_ : Value).ownBlock) v7_ r8 ∧ Kd.S (Kd.slice 3 (Kd.int .i64)) 24 w' w.heap.size (fun k_ => some k_ ≠ (v3_ : Value).ownBlock ∧ some k_ ≠ (v4_ : Value).ownBlock ∧ some k_ ≠ (v7_ : Value).ownBlock ∧ some k_ ≠ (v9_ : Value).ownBlock) v8_ r9 ∧ Kd.R (Kd.int .i64) 3 w' w.heap.size (fun k_ => some k_ ≠ (v3_ : Value).ownBlock ∧ some k_ ≠ (v4_ : Value).ownBlock ∧ some k_ ≠ (v7_ : Value).ownBlock) v9_ r10 ∧ Kd.R k69 69 w' w.heap.size (fun k_ => some k_ ≠ (v2_ : Value).ownBlock) v10_ r11 ∧ Below w.heap.size w w' := by
 unfold ternsim_Pass.f at h
 obtain ⟨⟨n, e0⟩, hv, h⟩ := Option.bind_eq_some_iff.mp h
 dsimp only at h
 by_cases c : e0 = 0
 ·rw [if_pos c] at h
  subst c
  by_cases ok : okPass a0_0 n l0_1 l0_2 l0_3 l0_4 [] = true
  ·rw [if_pos ok] at h
   obtain ⟨⟨s6, s7, X7, X8, X9, XA, lit, e2⟩, hid, h⟩ := Option.bind_eq_some_iff.mp h
   obtain ⟨⟨Lt, eS⟩, hst, h⟩ := Option.bind_eq_some_iff.mp h
   exact tpass_main k a0_0 A0_1 c0_1 l0_1 A0_2 c0_2 l0_2 A0_3 c0_3 l0_3 A0_4 c0_4 l0_4 n s6 s7 X7 X8 X9 XA lit e2 Lt eS r1 r2 r3 r4 r5 r6 r7 r8 r9 r10 r11 r12 r13 w hr0_1 hc0_1 hr0_2 hc0_2 hr0_3 hc0_3 hr0_4 hc0_4 hv ok hid hst h
  ·rw [if_neg ok] at h
   cases h
 ·rw [if_neg c] at h
  simp only [Option.some.injEq, Prod.mk.injEq] at h
  obtain ⟨rfl, rfl, rfl, rfl, rfl, rfl, rfl, rfl, rfl, rfl, rfl, rfl, rfl⟩ := h
  exact tpass_err k a0_0 A0_1 c0_1 l0_1 A0_2 c0_2 l0_2 A0_3 c0_3 l0_3 A0_4 c0_4 l0_4 n _ w hr0_1 hc0_1 hr0_2 hc0_2 hr0_3 hc0_3 hr0_4 hc0_4 hv c

end Go.Proofs.Ytmcdanpecajklaa.QTernsimValues
