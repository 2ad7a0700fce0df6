/- Contracts of the functions that the statement reaches. -/
import Derived.Test.YtgoblfacfjnanaaGreatCFnExactGateKeyIn3
import Derived.Test.YtgoblfacfjnanaaGreatCFnExactGateKeyIn4
import Derived.Test.YtgoblfacfjnanaaGreatCFnExactGateKeyIn5
import Derived.Test.YtgoblfacfjnanaaGreatCFnExactGateKeyIn7
import Derived.Test.YtgoblfacfjnanaaGreatCFnExactGateKeyIn8
import Derived.Test.YtgoblfacfjnanaaGreatCFnExactGateKeyIn9
set_option maxHeartbeats 8000000
set_option maxRecDepth 100000
section
namespace Go.Proofs.YtgoblfacfjnanaaGreat.PAll
open Go.RowKit Go.Proofs.YtgoblfacfjnanaaGreatW.PrintWords Go.Proofs.YtgoblfacfjnanaaGreatW.PrintLast Go.Proofs.YtgoblfacfjnanaaGreatW.PrintMore
attribute [local go_sem] max2_int min2_int max_two min_two max_three min_three max_four min_four
set_option linter.unusedVariables false
set_option linter.unusedSimpArgs false
/-- Keys as the cells of a variable. -/
abbrev saVl (s : S33) (SA : Option Addr) (SC : Nat) : Array Value := #[.int .i64 s.f0, .int .i64 s.f1, .string s.f2, .string s.f3, .int .i64 s.f4, .int .i64 s.f5, .int .i64 s.f6, .int .i64 s.f7, .int .i64 s.f8, .int .i64 s.f9.f0, .slice SA s.f9.f1.length SC]
abbrev saZl (z : S48) (v : Value) : List Value := [.int .i64 z.f0, .int .i64 z.f1, .string z.f2, .string z.f3, .int .i64 z.f4, .int .i64 z.f5, .int .i64 z.f6, .int .i64 z.f7, .int .i64 z.f8, .int .i64 z.f9.f0, v]
/-- What a call hands out, with all that it leads to among blocks of which p holds. -/
def WN (W : World) (p : Nat → Prop) (ds : Array Value) (g0 : Int) (g1 : List S92) (g2 : Int) (g3 : List S105) (g4 g5 : List S48) : Prop := ∃ b v1 v3 v4 v5, ds = #[.int .i64 g0, v1, .int .i64 g2, v3, v4, v5] ∧ Kd.R k92 92 W b p v1 g1 ∧ Kd.R k105 105 W b p v3 g3 ∧ Kd.N k48 48 W b p v4 g4 ∧ Kd.N k48 48 W b p v5 g5
section
variable {W W1 : World} {p : Nat → Prop} {ds : Array Value} {g0 : Int} {g1 : List S92} {g2 : Int} {g3 : List S105} {g4 g5 : List S48}
theorem WN.mon {p' : Nat → Prop} (h : WN W p ds g0 g1 g2 g3 g4 g5) (hp : ∀ k, p k → p' k) : WN W p' ds g0 g1 g2 g3 g4 g5 := by
 obtain ⟨b, v1, v3, v4, v5, e, h1, h3, h4, h5⟩ := h
 exact ⟨b, v1, v3, v4, v5, e, Kd.R_mono h1 hp, Kd.R_mono h3 hp, Kd.N_mono h4 hp, Kd.N_mono h5 hp⟩
theorem WN.below (h : WN W p ds g0 g1 g2 g3 g4 g5) (hb : Below W.heap.size W W1) (q : Nat) (hq : W.heap.size ≤ q) : WN W1 (fun k => k ≠ q) ds g0 g1 g2 g3 g4 g5 := by
 obtain ⟨b, v1, v3, v4, v5, e, h1, h3, h4, h5⟩ := h
 exact ⟨b, v1, v3, v4, v5, e, Kd.R_mono (Kd.R_step (Kd.R_bound h1) (fun k _ hk => hb.block k hk)) (fun k hk => by have := hk.2.2.1; omega), Kd.R_mono (Kd.R_step (Kd.R_bound h3) (fun k _ hk => hb.block k hk)) (fun k hk => by have := hk.2.2.1; omega), Kd.N_mono (Kd.N_below (Kd.N_elderB h4 q hq) hb) (fun _ hk => hk.2), Kd.N_mono (Kd.N_below (Kd.N_elderB h5 q hq) hb) (fun _ hk => hk.2)⟩
theorem WN.set {q : Nat} (h : WN W (fun k => k ≠ q) ds g0 g1 g2 g3 g4 g5) (hw : ∀ k, k ≠ q → W1.heap[k]? = W.heap[k]?) : IG W1 ds g0 g1 g2 g3 g4 g5 := by
 obtain ⟨b, v1, v3, v4, v5, e, h1, h3, h4, h5⟩ := h
 exact ⟨v1, v3, v4, v5, e, Kd.R_reads (Kd.R_step h1 (fun k hk _ => hw k hk)), Kd.R_reads (Kd.R_step h3 (fun k hk _ => hw k hk)), Kd.N_reads (Kd.N_step h4 (fun k hk _ => hw k hk)), Kd.N_reads (Kd.N_step h5 (fun k hk _ => hw k hk))⟩
end
/-- A variable of the call's own that is filled whole, in a drawn region. -/
theorem fill_ {P : Program} {ops : Array Oper} {Q : Exit → Act → World → Prop} {oi : Oper} {a : Act} {W w0 : World} {K : Act → World → Prop} {t e : TypeId} {g : Nat} {cur : Array Value} (hw : Region.wanted oi (yielded ops a.tmps) = true) (hN : oi.dst = none) (x y : Operand) (ho : oi.op = .store t x y)
  (vs : Array Value) (hx : a.eval x = .pointer (some ⟨g, 0, none⟩)) (hy : a.eval y = .agg vs) (hb : W.heap[g]? = some (.cells cur e (0, 0))) (hs : vs.size = cur.size) (hi : (P.info? t).map (·.size) = some vs.size) (h1 : vs.all (·.oneCell') = true) (HB : Below w0.heap.size w0 W) (hg : w0.heap.size ≤ g)
  (h : ∀ w1, w1.heap[g]? = some (.cells vs e (0, 0)) → Below w0.heap.size w0 w1 → (∀ k, k ≠ g → w1.heap[k]? = W.heap[k]?) → K a w1) : if Region.wanted oi (yielded ops a.tmps) = true then Oper.wp P oi a W K Q else K (a.put none undef) W := by
 have hthere : W.there g 0 vs.size := fun j hj => by
  refine ⟨?_, blk_frozen hb (0 + j)⟩
  rw [blk_cell hb (0 + j), Array.getElem?_eq_getElem (by omega)]
  rfl
 have hrun := run_storeVar_v (P := P) W g 0 t (.agg vs) vs rfl hthere hi h1
 refine skip_ hw hN (w1 := W.setCells g 0 vs.toList) (by unfold execOp; simp only [ho, hx, hy, Instr.storeAt, Instr.sureAddr, Sem.run_bind, Sem.run_pure, Result.andThen_ok, hrun]) ?_
 obtain ⟨cur', h3, h4, h5⟩ := setCells_row vs.toList 0 W cur hb (by simp; omega)
 obtain ⟨s1, s2, s3, s4⟩ := setCells_same g vs.toList 0 W
 have hc : cur' = vs := by
  apply Array.ext'
  rw [h5]
  have h6 : cur.toList.drop (0 + vs.toList.length) = [] := List.drop_eq_nil_of_le (by simp; omega)
  rw [h6]
  simp
 rw [hc] at h3
 refine h _ h3 ⟨s1.trans HB.os, s2.trans HB.tape, s3.trans HB.output, by rw [s4]; exact HB.size, fun k hk => ?_⟩ (fun k hk => setCells_far vs.toList 0 k hk)
 rw [setCells_far vs.toList 0 k (by omega)]
 exact HB.block k hk
def skeyP (k : Nat) (x0 : Int) (x1 : List S92) (x2 : Int) (x3 : List S105) (x4 : List S48) (x5 : List S48) (z : S48) (g0 : Int) (g1 : List S92) (g2 : Int) (g3 : List S105) (g4 : List S48) (g5 : List S48) (r : Bool) : Prop :=
 (spec_GateOk.f k x0 x1 x2 x3 x4 x5 = some false ∧ g0 = 0 ∧ g1 = [] ∧ g2 = 0 ∧ g3 = [] ∧ g4 = [] ∧ g5 = [] ∧ r = false) ∨
 (spec_GateOk.f k x0 x1 x2 x3 x4 x5 = some true ∧ ∃ h5 i there nw, spec_l10Copy.f k x0 x1 x2 x3 x4 x5 = some (g0, g1, g2, g3, g4, h5) ∧ spec_l10Spi.f k h5 z.f0 = some (i, there) ∧ spec_l10New.f k x0 x1 x2 x3 x4 x5 z.f0 z.f1 z.f2 z.f3 z.f4 z.f5 z.f6 z.f7 z.f8 z.f9.f0 z.f9.f1 = some nw ∧
  (((nw = false ∨ (nw = true ∧ there = true) ∨ (nw = true ∧ there = false ∧ 6 ≤ (x5.length : Int))) ∧ g5 = h5 ∧ r = false) ∨ (nw = true ∧ there = false ∧ ¬ 6 ≤ (x5.length : Int) ∧ spec_l10Put.f h5 i z.f0 z.f1 z.f2 z.f3 z.f4 z.f5 z.f6 z.f7 z.f8 z.f9.f0 z.f9.f1 = some g5 ∧ r = true)))
theorem spKI (k : Nat) (cs : Array Value) (x0 : Int) (x1 : List S92) (x2 : Int) (x3 : List S105) (x4 : List S48) (x5 : List S48) (z : S48) (sl : List Value) (g0 : Int) (g1 : List S92) (g2 : Int) (g3 : List S105) (g4 : List S48) (g5 : List S48) (r : Bool) (w : World) (H : IG w cs x0 x1 x2 x3 x4 x5) (HS : k48.K w z sl) (h : skeyP k x0 x1 x2 x3 x4 x5 z g0 g1 g2 g3 g4 g5 r) :
  Calls Tryz.prog 7 #[.agg cs, .agg sl.toArray] w fun e w' => ∃ ds, e = .returned (.tuple #[.agg ds, .bool r]) ∧ WN w' (fun k => w.heap.size ≤ k) ds g0 g1 g2 g3 g4 g5 ∧ Below w.heap.size w w' := by
 obtain ⟨_, _, _, _, rfl, ⟨A1, c1, rfl, l1, h1⟩, ⟨A3, c3, rfl, l3, h3⟩, ⟨A4, c4, rfl, l4, h4⟩, ⟨A5, c5, rfl, l5, h5⟩⟩ := H
 obtain ⟨A, c, rfl, lS, hC⟩ := k48_open HS
 have H1 := am h1
 have H3 := am h3
 have H4 := am h4
 have H5 := am h5
 have HC := am hC
 have EH := am h
 have HB := am (Below.refl w.heap.size w)
 have hu42 := Tryz.underlying42
 have hu48 := Tryz.underlying48
 clear h1 h3 h4 h5 h hC HS
 go_enter Tryz.func7, Tryz.ntmps7
 go_upto_region 1 with (first | ((with_reducible refine gate_dst (N := 2) rfl ?_); refine box_event rfl (N := 2) rfl (cs := #[.int .i64 x0, .slice A1 x1.length c1, .int .i64 x2, .slice A3 x3.length c3, .slice A4 x4.length c4, .slice A5 x5.length c5]) (t := 42) BX ?_; intro q1 hg wq hA hb; have W1 := am hA; replace HB := kpH HB hb; clear hg hA hb) | ((with_reducible refine gate_dst (N := 3) rfl ?_); refine box_event rfl (N := 3) rfl (cs := #[.int .i64 z.f0, .int .i64 z.f1, .string z.f2, .string z.f3, .int .i64 z.f4, .int .i64 z.f5, .int .i64 z.f6, .int .i64 z.f7, .int .i64 z.f8, .int .i64 z.f9.f0, .slice A z.f9.f1.length c]) (t := 48) BX ?_; intro qs hg wq hA hb; replace W1 := kpW W1 hb; have WS := am hA; replace HB := kpH HB hb; clear hg hA hb) | ((with_reducible refine gate_dst (N := 4) rfl ?_); refine box_event rfl (N := 4) rfl (cs := #[.int .i64 0, .slice none 0 0, .int .i64 0, .slice none 0 0, .slice none 0 0, .slice none 0 0]) (t := 42) BX ?_; intro q2 hg wq hA hb; have G2 := am (show w.heap.size ≤ q2 by rw [hg]; exact HB.out.size); replace W1 := kpW W1 hb; replace WS := kpW WS hb; have W2 := am hA; replace HB := kpH HB hb; clear hg hA hb))
 rcases EH.out with ⟨hok, rfl, rfl, rfl, rfl, rfl, rfl, rfl⟩ | ⟨hok, h5, i, there, nw, hcp, hsp, hnw, hcase⟩
 ·have EO := am hok
  clear EH hok
  go_wp2_with (first | ((with_reducible refine gate_dst (N := 9) rfl ?_); refine ldbox (t := 42) rfl (.tmp 2) rfl (by rfl) #[.int .i64 x0, .slice A1 x1.length c1, .int .i64 x2, .slice A3 x3.length c3, .slice A4 x4.length c4, .slice A5 x5.length c5] W1.out hu42 rfl (by kernel_rfl) ?_) | (go_at_call 22; refine (spec_GateOk.calls k x0 A1 c1 x1 x2 A3 c3 x3 A4 c4 x4 A5 c5 x5 false _ (Kd.C_below H1.out HB.out) l1 (Kd.C_below H3.out HB.out) l3 (Kd.C_below H4.out HB.out) l4 (Kd.C_below H5.out HB.out) l5 EO.out).mono ?_; rintro e wq ⟨rfl, hb⟩; replace W1 := kpW W1 hb; replace WS := kpW WS hb; replace W2 := kpW W2 hb; replace HB := kpH HB hb; clear hb) | ((with_reducible refine gate_store (t := 42) (p := 4) rfl ?_); refine stseg rfl rfl (.tmp 4) (.tmp 12) rfl (off := 0) (.agg #[.int .i64 0, .slice none 0 0, .int .i64 0, .slice none 0 0, .slice none 0 0, .slice none 0 0]) #[.int .i64 0, .slice none 0 0, .int .i64 0, .slice none 0 0, .slice none 0 0, .slice none 0 0] rfl (by rfl) (by rfl) W2.out (Nat.le_of_ble_eq_true rfl) (by kernel_rfl) (by kernel_rfl) #[.int .i64 0, .slice none 0 0, .int .i64 0, .slice none 0 0, .slice none 0 0, .slice none 0 0] (by rfl) HB.out G2.out ?_; intro wq hA hb hf; replace W2 := am hA; replace HB := am hb; clear hA hb hf))
  refine bodyPost_ret (results_ct rfl _ _ q2 42 #[.int .i64 0, .slice none 0 0, .int .i64 0, .slice none 0 0, .slice none 0 0, .slice none 0 0] (0, 0) _ rfl W2.out hu42 rfl (by kernel_rfl)) rfl ?_
  exact ⟨_, rfl, ⟨0, _, _, _, _, rfl, Kd.R_nil _ _ _ _ _, Kd.R_nil _ _ _ _ _, Kd.N_nil _ _ _ _ _, Kd.N_nil _ _ _ _ _⟩, HB.out⟩
 ·have EO := am hok
  have EC := am hcp
  have ES := am hsp
  have EN := am hnw
  have EQ := am hcase
  clear EH hok hcp hsp hnw hcase
  go_upto_region 3 with (first | ((with_reducible refine gate_dst (N := 9) rfl ?_); refine ldbox (t := 42) rfl (.tmp 2) rfl (by rfl) #[.int .i64 x0, .slice A1 x1.length c1, .int .i64 x2, .slice A3 x3.length c3, .slice A4 x4.length c4, .slice A5 x5.length c5] W1.out hu42 rfl (by kernel_rfl) ?_) | (go_at_call 22; refine (spec_GateOk.calls k x0 A1 c1 x1 x2 A3 c3 x3 A4 c4 x4 A5 c5 x5 true _ (Kd.C_below H1.out HB.out) l1 (Kd.C_below H3.out HB.out) l3 (Kd.C_below H4.out HB.out) l4 (Kd.C_below H5.out HB.out) l5 EO.out).mono ?_; rintro e wq ⟨rfl, hb⟩; replace W1 := kpW W1 hb; replace WS := kpW WS hb; replace W2 := kpW W2 hb; replace HB := kpH HB hb; clear hb))
  have LT2 := am (blk_lt W2.out)
  have LB := am HB.out.size
  generalize hwB : wq = wB at *
  clear hwB
  go_upto_region 4 with (first | ((with_reducible refine gate_dst (N := 13) rfl ?_); refine ldbox (t := 42) rfl (.tmp 2) rfl (by rfl) #[.int .i64 x0, .slice A1 x1.length c1, .int .i64 x2, .slice A3 x3.length c3, .slice A4 x4.length c4, .slice A5 x5.length c5] W1.out hu42 rfl (by kernel_rfl) ?_) | (go_at_call 23; refine (spec_l10Copy.calls k x0 A1 c1 x1 x2 A3 c3 x3 A4 c4 x4 A5 c5 x5 g0 g1 g2 g3 g4 h5 _ (Kd.C_below H1.out HB.out) l1 (Kd.C_below H3.out HB.out) l3 (Kd.C_below H4.out HB.out) l4 (Kd.C_below H5.out HB.out) l5 EC.out).mono ?_; rintro e wc ⟨v1, v3, v4, v5, rfl, o1, o3, o4, o5, hb⟩; obtain ⟨B1, d1, rfl⟩ := Kd.R_slice o1; obtain ⟨B3, d3, rfl⟩ := Kd.R_slice o3; obtain ⟨B4, d4, rfl⟩ := Kd.S_slice o4; obtain ⟨B5, d5, rfl⟩ := Kd.S_slice o5; have WB := am hb.size; have R1 := am (Kd.R_mono (ok' := fun k => wB.heap.size ≤ k ∧ k < wc.heap.size) (Kd.R_lower (Kd.R_bound o1) LB.out) (fun k h => ⟨h.2.1, h.2.2.1⟩)); have R3 := am (Kd.R_mono (ok' := fun k => wB.heap.size ≤ k ∧ k < wc.heap.size) (Kd.R_lower (Kd.R_bound o3) LB.out) (fun k h => ⟨h.2.1, h.2.2.1⟩)); have N4 := am (Kd.R_N (Kd.R_mono (ok' := fun k => wB.heap.size ≤ k ∧ k < wc.heap.size) (Kd.R_lower (Kd.R_bound (Kd.S_R o4)) LB.out) (fun k h => ⟨h.2.1, h.2.2.1⟩))); have N5 := am (Kd.R_N (Kd.R_mono (ok' := fun k => wB.heap.size ≤ k ∧ k < wc.heap.size) (Kd.R_lower (Kd.R_bound (Kd.S_R o5)) LB.out) (fun k h => ⟨h.2.1, h.2.2.1⟩))); replace W1 := kpW W1 hb; replace WS := kpW WS hb; replace W2 := kpW W2 hb; replace HB := kpH HB hb; clear hb o1 o3 o4 o5) | ((with_reducible refine gate_dst (N := 6) rfl ?_); refine mkboxg (N := 6) rfl rfl (cs := #[.int .i64 0, .slice none 0 0, .int .i64 0, .slice none 0 0, .slice none 0 0, .slice none 0 0]) (t := 42) BX rfl rfl (.tmp 6) (.tmp 14) rfl #[.int .i64 g0, .slice B1 g1.length d1, .int .i64 g2, .slice B3 g3.length d3, .slice B4 g4.length d4, .slice B5 h5.length d5] (by intro v; rfl) (by intro v; rfl) rfl (by kernel_rfl) (by kernel_rfl) ?_; intro q3 wq hq3 hA hb; have W3 := am hA; have L3 := am hq3; replace R1 := am (Kd.R_step R1.out (fun k hk hlt => hb.block k hlt)); replace R3 := am (Kd.R_step R3.out (fun k hk hlt => hb.block k hlt)); replace N4 := am (Kd.N_step N4.out (fun k hk hlt => hb.block k hlt)); replace N5 := am (Kd.N_step N5.out (fun k hk hlt => hb.block k hlt)); replace W1 := kpW W1 hb; replace WS := kpW WS hb; replace W2 := kpW W2 hb; replace HB := kpH HB hb; clear hA hb hq3))
  have hci := (blk_cell W3.out 5).trans (show _ = some (.slice B5 h5.length d5) from rfl)
  have hcs := (blk_cell WS.out 0).trans (show _ = some (.int .i64 z.f0) from rfl)
  go_upto_region 5 with (go_at_call 24; refine (spec_l10Spi.calls k B5 d5 h5 z.f0 i there _ (Kd.N_reads' N5.out).2.2 (Kd.N_reads' N5.out).2.1 ES.out).mono ?_; rintro e wq ⟨rfl, hdr⟩; have hb := hdr.below; replace W1 := kpW W1 hb; replace WS := kpW WS hb; replace W2 := kpW W2 hb; replace HB := kpH HB hb; replace W3 := kpW W3 hb; replace R1 := am (Kd.R_step R1.out (fun k hk hlt => hb.block k hlt)); replace R3 := am (Kd.R_step R3.out (fun k hk hlt => hb.block k hlt)); replace N4 := am (Kd.N_step N4.out (fun k hk hlt => hb.block k hlt)); replace N5 := am (Kd.N_step N5.out (fun k hk hlt => hb.block k hlt)); clear hb hdr)
  clear hcs hci
  have hci := (blk_cell W3.out 5).trans (show _ = some (.slice B5 h5.length d5) from rfl)
  have hc1 := (blk_cell W1.out 5).trans (show _ = some (.slice A5 x5.length c5) from rfl)
  rcases EQ.out with ⟨hbr, rfl, rfl⟩ | ⟨rfl, rfl, hlz, hput, rfl⟩
  ·clear EQ
   rcases hbr with rfl | ⟨rfl, rfl⟩ | ⟨rfl, rfl, hlz⟩
   all_goals
    go_upto_region 6 with (first | ((with_reducible refine gate_dst (N := 23) rfl ?_); refine ldbox (t := 42) rfl (.tmp 2) rfl (by rfl) #[.int .i64 x0, .slice A1 x1.length c1, .int .i64 x2, .slice A3 x3.length c3, .slice A4 x4.length c4, .slice A5 x5.length c5] W1.out hu42 rfl (by kernel_rfl) ?_) | ((with_reducible refine gate_dst (N := 24) rfl ?_); refine ldbox (t := 48) rfl (.tmp 3) rfl (by rfl) #[.int .i64 z.f0, .int .i64 z.f1, .string z.f2, .string z.f3, .int .i64 z.f4, .int .i64 z.f5, .int .i64 z.f6, .int .i64 z.f7, .int .i64 z.f8, .int .i64 z.f9.f0, .slice A z.f9.f1.length c] WS.out hu48 rfl (by kernel_rfl) ?_) | (go_at_call 25; refine (spec_l10New.calls k x0 A1 c1 x1 x2 A3 c3 x3 A4 c4 x4 A5 c5 x5 z.f0 z.f1 z.f2 z.f3 z.f4 z.f5 z.f6 z.f7 z.f8 z.f9.f0 A c z.f9.f1 _ _ (Kd.C_below H1.out HB.out) l1 (Kd.C_below H3.out HB.out) l3 (Kd.C_below H4.out HB.out) l4 (Kd.C_below H5.out HB.out) l5 (Kd.C_below HC.out HB.out) lS EN.out).mono ?_; rintro e wq ⟨rfl, hb⟩; replace W1 := kpW W1 hb; replace WS := kpW WS hb; replace W2 := kpW W2 hb; replace HB := kpH HB hb; replace W3 := kpW W3 hb; replace R1 := am (Kd.R_step R1.out (fun k hk hlt => hb.block k hlt)); replace R3 := am (Kd.R_step R3.out (fun k hk hlt => hb.block k hlt)); replace N4 := am (Kd.N_step N4.out (fun k hk hlt => hb.block k hlt)); replace N5 := am (Kd.N_step N5.out (fun k hk hlt => hb.block k hlt)); replace hci := (blk_cell W3.out 5).trans (show _ = some (.slice B5 _ d5) from rfl); replace hc1 := (blk_cell W1.out 5).trans (show _ = some (.slice A5 x5.length c5) from rfl); clear hb))
    go_wp2_with (first | ((with_reducible refine gate_dst (N := 36) rfl ?_); refine ldbox (t := 42) rfl (.tmp 6) rfl (by rfl) #[.int .i64 g0, .slice B1 g1.length d1, .int .i64 g2, .slice B3 g3.length d3, .slice B4 g4.length d4, .slice B5 g5.length d5] W3.out hu42 rfl (by kernel_rfl) ?_) | ((with_reducible refine gate_store (t := 42) (p := 4) rfl ?_); refine stseg rfl rfl (.tmp 4) (.tmp 36) rfl (off := 0) (.agg #[.int .i64 g0, .slice B1 g1.length d1, .int .i64 g2, .slice B3 g3.length d3, .slice B4 g4.length d4, .slice B5 g5.length d5]) #[.int .i64 g0, .slice B1 g1.length d1, .int .i64 g2, .slice B3 g3.length d3, .slice B4 g4.length d4, .slice B5 g5.length d5] rfl (by rfl) (by rfl) W2.out (Nat.le_of_ble_eq_true rfl) (by kernel_rfl) (by kernel_rfl) #[.int .i64 g0, .slice B1 g1.length d1, .int .i64 g2, .slice B3 g3.length d3, .slice B4 g4.length d4, .slice B5 g5.length d5] (by rfl) HB.out G2.out ?_; intro wq hA hb hf; replace W2 := am hA; replace HB := am hb; replace W3 := am ((hf _ (by have := LT2.out; have := L3.out; have := WB.out; omega)).trans W3.out); replace R1 := am (Kd.R_step R1.out (fun k hk hlt => hf _ (by have := LT2.out; have := WB.out; have := hk; omega))); replace R3 := am (Kd.R_step R3.out (fun k hk hlt => hf _ (by have := LT2.out; have := WB.out; have := hk; omega))); replace N4 := am (Kd.N_step N4.out (fun k hk hlt => hf _ (by have := LT2.out; have := WB.out; have := hk; omega))); replace N5 := am (Kd.N_step N5.out (fun k hk hlt => hf _ (by have := LT2.out; have := WB.out; have := hk; omega))); clear hA hb hf))
    refine bodyPost_ret (results_ct rfl _ _ q2 42 #[.int .i64 g0, .slice B1 g1.length d1, .int .i64 g2, .slice B3 g3.length d3, .slice B4 g4.length d4, .slice B5 g5.length d5] (0, 0) _ rfl W2.out hu42 rfl (by kernel_rfl)) rfl ?_
    exact ⟨_, rfl, ⟨_, _, _, _, _, rfl, Kd.R_mono R1.out (fun k h => Nat.le_trans LB.out h.1), Kd.R_mono R3.out (fun k h => Nat.le_trans LB.out h.1), Kd.N_mono N4.out (fun k h => Nat.le_trans LB.out h.1), Kd.N_mono N5.out (fun k h => Nat.le_trans LB.out h.1)⟩, HB.out⟩
  ·have EP := am hput
   clear EQ hput
   go_upto_region 7 with (first | ((with_reducible refine gate_dst (N := 23) rfl ?_); refine ldbox (t := 42) rfl (.tmp 2) rfl (by rfl) #[.int .i64 x0, .slice A1 x1.length c1, .int .i64 x2, .slice A3 x3.length c3, .slice A4 x4.length c4, .slice A5 x5.length c5] W1.out hu42 rfl (by kernel_rfl) ?_) | ((with_reducible refine gate_dst (N := 24) rfl ?_); refine ldbox (t := 48) rfl (.tmp 3) rfl (by rfl) #[.int .i64 z.f0, .int .i64 z.f1, .string z.f2, .string z.f3, .int .i64 z.f4, .int .i64 z.f5, .int .i64 z.f6, .int .i64 z.f7, .int .i64 z.f8, .int .i64 z.f9.f0, .slice A z.f9.f1.length c] WS.out hu48 rfl (by kernel_rfl) ?_) | (go_at_call 25; refine (spec_l10New.calls k x0 A1 c1 x1 x2 A3 c3 x3 A4 c4 x4 A5 c5 x5 z.f0 z.f1 z.f2 z.f3 z.f4 z.f5 z.f6 z.f7 z.f8 z.f9.f0 A c z.f9.f1 _ _ (Kd.C_below H1.out HB.out) l1 (Kd.C_below H3.out HB.out) l3 (Kd.C_below H4.out HB.out) l4 (Kd.C_below H5.out HB.out) l5 (Kd.C_below HC.out HB.out) lS EN.out).mono ?_; rintro e wq ⟨rfl, hb⟩; replace W1 := kpW W1 hb; replace WS := kpW WS hb; replace W2 := kpW W2 hb; replace HB := kpH HB hb; replace W3 := kpW W3 hb; replace R1 := am (Kd.R_step R1.out (fun k hk hlt => hb.block k hlt)); replace R3 := am (Kd.R_step R3.out (fun k hk hlt => hb.block k hlt)); replace N4 := am (Kd.N_step N4.out (fun k hk hlt => hb.block k hlt)); replace N5 := am (Kd.N_step N5.out (fun k hk hlt => hb.block k hlt)); replace hci := (blk_cell W3.out 5).trans (show _ = some (.slice B5 _ d5) from rfl); replace hc1 := (blk_cell W1.out 5).trans (show _ = some (.slice A5 x5.length c5) from rfl); clear hb))
   generalize hwp : wq = wp at *
   clear hwp
   have PS := am (show q3 < wp.heap.size from blk_lt W3.out)
   go_upto_region 8 with (first | ((with_reducible refine gate_dst (N := 40) rfl ?_); refine ldbox (t := 48) rfl (.tmp 3) rfl (by rfl) #[.int .i64 z.f0, .int .i64 z.f1, .string z.f2, .string z.f3, .int .i64 z.f4, .int .i64 z.f5, .int .i64 z.f6, .int .i64 z.f7, .int .i64 z.f8, .int .i64 z.f9.f0, .slice A z.f9.f1.length c] WS.out hu48 rfl (by kernel_rfl) ?_) | (go_at_call 26; refine (spec_l10Put.calls (fun k => wB.heap.size ≤ k ∧ k < wc.heap.size) B5 d5 h5 i z.f0 z.f1 z.f2 z.f3 z.f4 z.f5 z.f6 z.f7 z.f8 z.f9.f0 A c z.f9.f1 g5 _ (Kd.N_V N5.out) (Kd.C_below HC.out HB.out) lS EP.out).mono ?_; rintro e wq ⟨v0, rfl, hN, hb⟩; obtain ⟨B0, d0, LL, rfl⟩ : ∃ A c L, v0 = .slice A L c := (by obtain ⟨A, c, h⟩ := Kd.N_slice hN; exact ⟨A, c, _, h⟩); replace W1 := kpW W1 hb; replace WS := kpW WS hb; replace W2 := kpW W2 hb; replace HB := kpH HB hb; replace W3 := kpW W3 hb; replace R1 := am (Kd.R_step R1.out (fun k hk hlt => hb.block k hlt)); replace R3 := am (Kd.R_step R3.out (fun k hk hlt => hb.block k hlt)); replace N4 := am (Kd.N_step N4.out (fun k hk hlt => hb.block k hlt)); replace N5 := am (Kd.N_step N5.out (fun k hk hlt => hb.block k hlt)); replace R1 := am (Kd.R_mono (ok' := fun k => (wB.heap.size ≤ k ∧ k < wc.heap.size) ∨ wp.heap.size ≤ k) R1.out (fun k h => .inl h)); replace R3 := am (Kd.R_mono (ok' := fun k => (wB.heap.size ≤ k ∧ k < wc.heap.size) ∨ wp.heap.size ≤ k) R3.out (fun k h => .inl h)); replace N4 := am (Kd.N_mono (ok' := fun k => (wB.heap.size ≤ k ∧ k < wc.heap.size) ∨ wp.heap.size ≤ k) N4.out (fun k h => .inl h)); clear N5; have N5 := am (Kd.N_lower hN (Nat.le_trans LB.out (by have := PS.out; have := L3.out; have := WB.out; omega))); clear hN hb) | ((with_reducible refine gate_store (t := 40) (p := 42) rfl ?_); refine stseg rfl rfl (.tmp 42) (.tmp 41) rfl (off := 5) (.slice B0 LL d0) #[.slice B0 LL d0] rfl (by rfl) (by rfl) W3.out (Nat.le_of_ble_eq_true rfl) (by kernel_rfl) (by kernel_rfl) #[.int .i64 g0, .slice B1 g1.length d1, .int .i64 g2, .slice B3 g3.length d3, .slice B4 g4.length d4, .slice B0 LL d0] (by rfl) HB.out (by have := L3.out; have := LB.out; have := WB.out; omega) ?_; intro wq hA hb hf; replace W2 := am ((hf _ (by have := LT2.out; have := L3.out; have := WB.out; omega)).trans W2.out); replace W3 := am hA; replace HB := am hb; replace R1 := am (Kd.R_step R1.out (fun k hk hlt => hf _ (by have := L3.out; have := PS.out; have := hk; omega))); replace R3 := am (Kd.R_step R3.out (fun k hk hlt => hf _ (by have := L3.out; have := PS.out; have := hk; omega))); replace N4 := am (Kd.N_step N4.out (fun k hk hlt => hf _ (by have := L3.out; have := PS.out; have := hk; omega))); replace N5 := am (Kd.N_step N5.out (fun k hk hlt => hf _ (by have := L3.out; have := PS.out; have := hk; omega))); clear hA hb hf))
   go_wp2_with (first | ((with_reducible refine gate_dst (N := 43) rfl ?_); refine ldbox (t := 42) rfl (.tmp 6) rfl (by rfl) #[.int .i64 g0, .slice B1 g1.length d1, .int .i64 g2, .slice B3 g3.length d3, .slice B4 g4.length d4, .slice B0 LL d0] W3.out hu42 rfl (by kernel_rfl) ?_) | ((with_reducible refine gate_store (t := 42) (p := 4) rfl ?_); refine stseg rfl rfl (.tmp 4) (.tmp 43) rfl (off := 0) (.agg #[.int .i64 g0, .slice B1 g1.length d1, .int .i64 g2, .slice B3 g3.length d3, .slice B4 g4.length d4, .slice B0 LL d0]) #[.int .i64 g0, .slice B1 g1.length d1, .int .i64 g2, .slice B3 g3.length d3, .slice B4 g4.length d4, .slice B0 LL d0] rfl (by rfl) (by rfl) W2.out (Nat.le_of_ble_eq_true rfl) (by kernel_rfl) (by kernel_rfl) #[.int .i64 g0, .slice B1 g1.length d1, .int .i64 g2, .slice B3 g3.length d3, .slice B4 g4.length d4, .slice B0 LL d0] (by rfl) HB.out G2.out ?_; intro wq hA hb hf; replace W2 := am hA; replace HB := am hb; replace W3 := am ((hf _ (by have := LT2.out; have := L3.out; have := WB.out; omega)).trans W3.out); replace R1 := am (Kd.R_step R1.out (fun k hk hlt => hf _ (by have := LT2.out; have := WB.out; have := L3.out; have := PS.out; have := hk; omega))); replace R3 := am (Kd.R_step R3.out (fun k hk hlt => hf _ (by have := LT2.out; have := WB.out; have := L3.out; have := PS.out; have := hk; omega))); replace N4 := am (Kd.N_step N4.out (fun k hk hlt => hf _ (by have := LT2.out; have := WB.out; have := L3.out; have := PS.out; have := hk; omega))); replace N5 := am (Kd.N_step N5.out (fun k hk hlt => hf _ (by have := LT2.out; have := WB.out; have := L3.out; have := PS.out; have := hk; omega))); clear hA hb hf))
   refine bodyPost_ret (results_ct rfl _ _ q2 42 #[.int .i64 g0, .slice B1 g1.length d1, .int .i64 g2, .slice B3 g3.length d3, .slice B4 g4.length d4, .slice B0 LL d0] (0, 0) _ rfl W2.out hu42 rfl (by kernel_rfl)) rfl ?_
   have hp : ∀ k, ((wB.heap.size ≤ k ∧ k < wc.heap.size) ∨ wp.heap.size ≤ k) → w.heap.size ≤ k := fun k h => by have := LB.out; have := PS.out; have := L3.out; have := WB.out; omega
   exact ⟨_, rfl, ⟨_, _, _, _, _, rfl, Kd.R_mono R1.out hp, Kd.R_mono R3.out hp, Kd.N_mono N4.out hp, Kd.N_mono N5.out hp⟩, HB.out⟩
theorem iwKI (k : Nat) (cs : Array Value) (y0 : Int) (y1 : List S92) (y2 : Int) (y3 : List S105) (y4 : List S48) (y5 : List S48) (z : S48) (sl : List Value) (g0 : Int) (g1 : List S92) (g2 : Int) (g3 : List S105) (g4 : List S48) (g5 : List S48) (r : Bool) (w : World) (H : IG w cs y0 y1 y2 y3 y4 y5) (HS : k48.K w z sl) (h : ikeyP k y0 y1 y2 y3 y4 y5 z g0 g1 g2 g3 g4 g5 r) : Calls Tryz.prog 10 #[.agg cs, .agg sl.toArray] w fun e w' => ∃ ds, e = .returned (.tuple #[.agg ds, .bool r]) ∧ WN w' (fun k => w.heap.size ≤ k) ds g0 g1 g2 g3 g4 g5 ∧ Below w.heap.size w w' := by
 refine (imK k cs y0 y1 y2 y3 y4 y5 z sl g0 g1 g2 g3 g4 g5 r w H HS h).mono ?_
 rintro e w' ⟨ds, N, t, rfl, ⟨v1, v3, v4, v5, rfl, o1, o3, o4, o5⟩, _, hb⟩
 exact ⟨_, rfl, ⟨w.heap.size, v1, v3, v4, v5, rfl, Kd.R_mono (Kd.R_bound o1) (fun _ h => h.2.1), Kd.R_mono (Kd.R_bound o3) (fun _ h => h.2.1), Kd.R_N (Kd.S_R (Kd.S_mono (Kd.S_bound o4) (fun _ h => h.2.1))), Kd.R_N (Kd.S_R (Kd.S_mono (Kd.S_bound o5) (fun _ h => h.2.1)))⟩, hb⟩
def KIP (k : Nat) (x0 : Int) (x1 : List S96) (x2 : Int) (x3 : List S124) (x4 : List S33) (x5 : List S33) (s : S33) : Prop := ∃ t, laws_szGate.f k x0 x1 x2 x3 x4 x5 1048576 = some t ∧ (t < 0 ∨ (¬ t < 0 ∧ ∃ u, laws_szSa.f s.f0 s.f1 s.f2 s.f3 s.f4 s.f5 s.f6 s.f7 s.f8 s.f9.f0 s.f9.f1 t = some u ∧ (u < 0 ∨ (¬ u < 0 ∧ ∃ y0 y1 y2 y3 y4 y5 z g0 g1 g2 g3 g4 g5 r m1 n1 n3 n4 n5 ms ns m2 o1 o3 o4 o5, laws_toGate.f k x0 x1 x2 x3 x4 x5 = some (y0, y1, y2, y3, y4, y5) ∧ laws_toSa.f k s.f0 s.f1 s.f2 s.f3 s.f4 s.f5 s.f6 s.f7 s.f8 s.f9.f0 s.f9.f1 = some (z.f0, z.f1, z.f2, z.f3, z.f4, z.f5, z.f6, z.f7, z.f8, z.f9.f0, z.f9.f1) ∧ skeyP k y0 y1 y2 y3 y4 y5 z g0 g1 g2 g3 g4 g5 r ∧ ikeyP k y0 y1 y2 y3 y4 y5 z g0 g1 g2 g3 g4 g5 r ∧ (eqW k g4 ∧ eqW k g5) ∧ (eqW k y4 ∧ eqW k y5) ∧ laws_eqWindow.f k z.f9.f0 z.f9.f1 z.f9.f0 z.f9.f1 = some true ∧
 mkGate.f k y0 y1 y2 y3 y4 y5 1 = some (m1, n1, n3, n4, n5) ∧ laws_markSa.f k z.f0 z.f1 z.f2 z.f3 z.f4 z.f5 z.f6 z.f7 z.f8 z.f9.f0 z.f9.f1 m1 = some (ms, ns) ∧ 0 ≤ ms ∧ mkGate.f k g0 g1 g2 g3 g4 g5 1 = some (m2, o1, o3, o4, o5) ∧ 0 ≤ m2 ∧ heldGP k o1 g2 o3 o4 o5 1 m2))))
set_option maxHeartbeats 16000000 in
theorem lawKI (k : Nat) (cs : Array Value) (x0 : Int) (x1 : List S96) (x2 : Int) (x3 : List S124) (x4 : List S33) (x5 : List S33) (s : S33) (SA : Option Addr) (SC : Nat) (w : World) (H : LG w cs x0 x1 x2 x3 x4 x5) (hSs : Kd.C (Kd.int .i64) w SA s.f9.f1.length s.f9.f1) (hSl : s.f9.f1.length ≤ SC) (h : KIP k x0 x1 x2 x3 x4 x5 s) : Calls Tryz.prog 3 #[.agg cs, .agg (saVl s SA SC)] w fun e w' => e = .returned (.bool true) ∧ Below w.heap.size w w' := by
 have LL := am H
 have LS := am hSs
 have ZL := am H.size
 have HB := am (Below.refl w.heap.size w)
 have hu28 := Tryz.underlying28
 have hu33 := Tryz.underlying33
 have hu42 := Tryz.underlying42
 have hu48 := Tryz.underlying48
 obtain ⟨t, ht, h⟩ := h
 have HT := am ht
 have HH := am h
 clear H hSs h ht
 obtain ⟨_, _, _, _, rfl, ⟨A1, c1, rfl, _⟩, ⟨A3, c3, rfl, _⟩, ⟨A4, c4, rfl, _⟩, ⟨A5, c5, rfl, _⟩⟩ := id LL.out
 go_enter Tryz.func3, Tryz.ntmps3
 go_upto_region 1 with (first | ((with_reducible refine gate_dst (N := 2) rfl ?_); refine box_event rfl (N := 2) rfl (cs := #[.int .i64 x0, .slice A1 x1.length c1, .int .i64 x2, .slice A3 x3.length c3, .slice A4 x4.length c4, .slice A5 x5.length c5]) (t := 28) BX ?_; intro q1 hq1 wq hA hb; have B1 := am hA; replace HB := kpH HB hb; replace LL := am (LL.out.below hb); replace LS := am (Kd.C_below LS.out hb); clear hA hb hq1) | ((with_reducible refine gate_dst (N := 3) rfl ?_); refine box_event rfl (N := 3) rfl (cs := (saVl s SA SC)) (t := 33) BX ?_; intro qs hqs wq hA hb; have BS := am hA; replace B1 := kpW B1 hb; replace HB := kpH HB hb; replace LL := am (LL.out.below hb); replace LS := am (Kd.C_below LS.out hb); clear hA hb hqs))
 generalize (#[.int .i64 x0, .slice A1 x1.length c1, .int .i64 x2, .slice A3 x3.length c3, .slice A4 x4.length c4, .slice A5 x5.length c5] : Array Value) = cs at LL ZL B1 ⊢
 rcases HH.out with hneg | ⟨hneg, u, hu, hh⟩
 ·have cd := decide_eq_true hneg
  go_wp2_with (first | ((with_reducible refine gate_dst (N := 17) rfl ?_); refine ldbox (t := 28) rfl (.tmp 2) rfl (by rfl) cs B1.out hu28 rfl (by rw [Array.length_toList, ZL.out.1]; kernel_rfl) ?_) | (go_at_call 5; refine (szG k cs x0 x1 x2 x3 x4 x5 _ t _ LL.out HT.out).mono ?_; rintro e wq ⟨rfl, hb⟩; replace B1 := kpW B1 hb; replace BS := kpW BS hb; replace HB := kpH HB hb; replace LL := am (LL.out.below hb); replace LS := am (Kd.C_below LS.out hb); clear hb))
  go_ret
  exact ⟨rfl, HB.out⟩
 have cd := decide_eq_false hneg
 have HU := am hu
 have H2 := am hh
 clear HH hh hu
 go_upto_region 5 with (first | ((with_reducible refine gate_dst (N := 17) rfl ?_); refine ldbox (t := 28) rfl (.tmp 2) rfl (by rfl) cs B1.out hu28 rfl (by rw [Array.length_toList, ZL.out.1]; kernel_rfl) ?_) | (go_at_call 5; refine (szG k cs x0 x1 x2 x3 x4 x5 _ t _ LL.out HT.out).mono ?_; rintro e wq ⟨rfl, hb⟩; replace B1 := kpW B1 hb; replace BS := kpW BS hb; replace HB := kpH HB hb; replace LL := am (LL.out.below hb); replace LS := am (Kd.C_below LS.out hb); clear hb))
 rcases H2.out with hneg2 | ⟨hneg2, y0, y1, y2, y3, y4, y5, z, g0, g1, g2, g3, g4, g5, r, m1, n1, n3, n4, n5, ms, ns, m2, o1, o3, o4, o5, e1, e9, e2, e3, e4, e5, e55, e6, e56, e7, e8, e10, e11⟩
 ·have cd2 := decide_eq_true hneg2
  go_wp2_with (first | ((with_reducible refine gate_dst (N := 22) rfl ?_); refine ldbox (t := 33) rfl (.tmp 3) rfl (by rfl) (saVl s SA SC) BS.out hu33 rfl (by kernel_rfl) ?_) | (go_at_call 6; refine (laws_szSa.calls s.f0 s.f1 s.f2 s.f3 s.f4 s.f5 s.f6 s.f7 s.f8 s.f9.f0 SA SC s.f9.f1 _ u _ LS.out hSl HU.out).mono ?_; rintro e wq ⟨rfl, hb⟩; replace B1 := kpW B1 hb; replace BS := kpW BS hb; replace HB := kpH HB hb; replace LL := am (LL.out.below hb); replace LS := am (Kd.C_below LS.out hb); clear hb))
  go_ret
  exact ⟨rfl, HB.out⟩
 have cd2 := decide_eq_false (show ¬ u < 0 by omega)
 have T1 := am e1
 have T9 := am e9
 have T2 := am e2
 have T3 := am e3
 have T4 := am e4
 have T5 := am e5
 have T55 := am e55
 have T6 := am e6
 have T56 := am e56
 have M1 := am e7
 have T8 := am e8
 have M2 := am e10
 have T10 := am e11
 clear H2 e1 e9 e2 e3 e4 e5 e55 e6 e56 e7 e8 e10 e11
 go_upto_region 8 with (first | ((with_reducible refine gate_dst (N := 22) rfl ?_); refine ldbox (t := 33) rfl (.tmp 3) rfl (by rfl) (saVl s SA SC) BS.out hu33 rfl (by kernel_rfl) ?_) | (go_at_call 6; refine (laws_szSa.calls s.f0 s.f1 s.f2 s.f3 s.f4 s.f5 s.f6 s.f7 s.f8 s.f9.f0 SA SC s.f9.f1 _ u _ LS.out hSl HU.out).mono ?_; rintro e wq ⟨rfl, hb⟩; replace B1 := kpW B1 hb; replace BS := kpW BS hb; replace HB := kpH HB hb; replace LL := am (LL.out.below hb); replace LS := am (Kd.C_below LS.out hb); clear hb))
 have hbd := below_drew (Below.refl wq.heap.size wq)
 refine start_ (n := 11) (S := fun w' => w'.heap[q1]? = some (.cells cs 28 (0, 0)) ∧ w'.heap[qs]? = some (.cells (saVl s SA SC) 33 (0, 0))) (ds := []) (tf 0 11) (by kernel_rfl) rfl rfl ⟨B1.out, BS.out⟩ (fun hHeld => ?_)
 replace B1 := kpW B1 hbd; replace BS := kpW BS hbd; replace HB := kpH HB hbd; replace LL := am (LL.out.below hbd); replace LS := am (Kd.C_below LS.out hbd)
 generalize wq.drew = wd at *
 refine tk 0 (some 28) (tf 1 10) (by kernel_rfl) hHeld ?_ (hy := yld (by rfl) (.tmp 2) rfl (by rfl) cs (fun w h => h.1) hu28 rfl (by rw [Array.length_toList, ZL.out.1]; kernel_rfl))
 refine tk 2 (some 30) (tr [1, 1, 1, 8]) (by kernel_rfl) hHeld ?_ (hy := yld (by rfl) (.tmp 3) rfl (by rfl) (saVl s SA SC) (fun w h => h.2) hu33 rfl (by kernel_rfl))
 clear hHeld
 have SS : ∀ W, Below wd.heap.size wd W → (W.heap[q1]? = some (.cells cs 28 (0, 0)) ∧ W.heap[qs]? = some (.cells (saVl s SA SC) 33 (0, 0))) := fun W h => ⟨blk_below B1.out h, blk_below BS.out h⟩
 refine join_ (σ := Array Value × Value × Array Value × Nat) 2 (tf 9 2) (fun s_ => [(29, .agg s_.1), (31, .agg (List.toArray (saZl z (s_.2.1)))), (32, .tuple #[.agg s_.2.2.1, .bool r]), (27, .tuple #[.agg s_.2.2.1, .bool r]), (33, .agg s_.2.2.1), (34, .bool r), (6, .pointer (some ⟨s_.2.2.2, 0, none⟩))]) (fun s_ W => Below wd.heap.size wd W ∧ WN W (fun k => k ≠ s_.2.2.2) s_.2.2.1 g0 g1 g2 g3 g4 g5 ∧ W.heap[s_.2.2.2]? = some (.cells #[.int .i64 0, .slice none 0 0, .int .i64 0, .slice none 0 0, .slice none 0 0, .slice none 0 0] 42 (0, 0)) ∧ wd.heap.size ≤ s_.2.2.2) ?_ (fun F4 => ?_)
 rotate_left
 ·skip
  refine join_ (σ := Array Value × Value × Nat) 6 (tr [4, 4, 1, 2]) (fun s_ => [(29, .agg s_.1), (31, .agg (List.toArray (saZl z (s_.2.1)))), (6, .pointer (some ⟨s_.2.2, 0, none⟩))]) (fun s_ W => Below wd.heap.size wd W ∧ IG W s_.1 y0 y1 y2 y3 y4 y5 ∧ RV (Kd.int .i64) W s_.2.1 z.f9.f1 ∧ W.heap[s_.2.2]? = some (.cells #[.int .i64 0, .slice none 0 0, .int .i64 0, .slice none 0 0, .slice none 0 0, .slice none 0 0] 42 (0, 0)) ∧ wd.heap.size ≤ s_.2.2) ?_ (fun F3q => ?_)
  ·rintro ⟨d0, _, q⟩ W ⟨hW, hI, ⟨A', c', rfl, hl', hC'⟩, hA, hq⟩
   refine norm_ (a' := ?_) ?_ ?_
   rotate_left
   ·simp only [putAll, Act.put, List.setIfInBounds_toArray, List.set_cons_zero, List.set_cons_succ, i64_w, i32_w]
    rfl
   refine one_ (i := 4) (N := some 32) (tr [5, 3, 1, 2]) rfl rfl (by kernel_rfl) (by decide) (fun K hK => ?_)
   refine goes_ Tryz.func7 (by kernel_rfl) rfl #[.agg d0, .agg (List.toArray (saZl z (.slice A' z.f9.f1.length c')))] (by rfl) rfl rfl MT ?_
   refine (spKI k d0 y0 y1 y2 y3 y4 y5 z _ g0 g1 g2 g3 g4 g5 r W hI (k48_mk W z hl' hC') T2.out).mono ?_
   rintro e W' ⟨ds, rfl, hN, hb⟩
   have hW' := below_then hW hW.size hb
   refine ⟨_, rfl, hK.out _ _ (SS W' hW') (fun hH => ?_)⟩
   refine norm_ (a' := ?_) ?_ ?_
   rotate_left
   ·simp only [putAll, Act.put, List.setIfInBounds_toArray, List.set_cons_zero, List.set_cons_succ, i64_w, i32_w]
    rfl
   refine tk 5 (some 27) (tr [6, 2, 1, 2]) (by kernel_rfl) hH ?_
   refine tk 6 (some 33) (tr [7, 1, 1, 2]) (by kernel_rfl) hH ?_
   refine tk 7 (some 34) (tf 9 2) (by kernel_rfl) hH ?_
   exact norm_ NM (F4 (d0, .slice A' z.f9.f1.length c', ds, q) W' ⟨hW', hN.mon (fun k hk => show k ≠ q by have h1 : q < W.heap.size := blk_lt hA; have h2 : W.heap.size ≤ k := hk; omega), (hb.block q (blk_lt hA)).trans hA, hq⟩)
  refine join_ (σ := Array Value × Value) 7 (tf 4 7) (fun s_ => [(29, .agg s_.1), (31, .agg (List.toArray (saZl z (s_.2))))]) (fun s_ W => Below wd.heap.size wd W ∧ IG W s_.1 y0 y1 y2 y3 y4 y5 ∧ RV (Kd.int .i64) W s_.2 z.f9.f1) ?_ (fun F3 => ?_)
  ·rintro ⟨d0, _⟩ W ⟨hW, hI, ⟨A', c', rfl, hl', hC'⟩⟩
   refine norm_ (a' := ?_) ?_ ?_
   rotate_left
   ·simp only [putAll, Act.put, List.setIfInBounds_toArray, List.set_cons_zero, List.set_cons_succ, i64_w, i32_w]
    rfl
   refine two_ (i := 4) (j := 8) (Ni := some 32) (Nj := some 6) (tf 5 6) (tr [4, 4, 1, 2]) rfl rfl rfl rfl (by kernel_rfl) (by decide) (by decide) (fun K hK => ?_) (fun K hK => ?_)
   ·refine goes_ Tryz.func7 (by kernel_rfl) rfl #[.agg d0, .agg (List.toArray (saZl z (.slice A' z.f9.f1.length c')))] (by rfl) rfl rfl MT ?_
    refine (spKI k d0 y0 y1 y2 y3 y4 y5 z _ g0 g1 g2 g3 g4 g5 r W hI (k48_mk W z hl' hC') T2.out).mono ?_
    rintro e W' ⟨ds, rfl, hN, hb⟩
    have hW' := below_then hW hW.size hb
    refine ⟨_, rfl, hK.out _ _ (SS W' hW') (fun hH => ?_)⟩
    refine norm_ (a' := ?_) ?_ ?_
    rotate_left
    ·simp only [putAll, Act.put, List.setIfInBounds_toArray, List.set_cons_zero, List.set_cons_succ, i64_w, i32_w]
     rfl
    refine tk 5 (some 27) (tf 6 5) (by kernel_rfl) hH ?_
    refine tk 6 (some 33) (tf 7 4) (by kernel_rfl) hH ?_
    refine tk 7 (some 34) (tf 8 3) (by kernel_rfl) hH ?_
    clear hK K
    refine one_ (i := 8) (N := some 6) (tf 9 2) rfl rfl (by kernel_rfl) (by decide) (fun K hK => ?_)
    refine box_step rfl (N := 6) rfl (cs := #[.int .i64 0, .slice none 0 0, .int .i64 0, .slice none 0 0, .slice none 0 0, .slice none 0 0]) (t := 42) BX ?_
    intro q hq W2 hA hb2
    have hW2 := below_then hW' hW'.size hb2
    refine hK.out _ _ (SS W2 hW2) (fun hH => ?_)
    exact norm_ NM (F4 (d0, .slice A' z.f9.f1.length c', ds, q) W2 ⟨hW2, hN.below hb2 q (Nat.le_of_eq hq.symm), hA, by rw [hq]; exact hW'.size⟩)
   ·refine box_step rfl (N := 6) rfl (cs := #[.int .i64 0, .slice none 0 0, .int .i64 0, .slice none 0 0, .slice none 0 0, .slice none 0 0]) (t := 42) BX ?_
    intro q hq W' hA hb
    have hW' := below_then hW hW.size hb
    refine hK.out _ _ (SS W' hW') (fun hH => ?_)
    exact norm_ NM (F3q (d0, .slice A' z.f9.f1.length c', q) W' ⟨hW', hI.below hb, ⟨A', c', rfl, hl', Kd.C_below hC' hb⟩, hA, by rw [hq]; exact hW.size⟩)
  refine join_ (σ := Array Value × Nat) 7 (tr [3, 5, 1, 2]) (fun s_ => [(29, .agg s_.1), (6, .pointer (some ⟨s_.2, 0, none⟩))]) (fun s_ W => Below wd.heap.size wd W ∧ IG W s_.1 y0 y1 y2 y3 y4 y5 ∧ W.heap[s_.2]? = some (.cells #[.int .i64 0, .slice none 0 0, .int .i64 0, .slice none 0 0, .slice none 0 0, .slice none 0 0] 42 (0, 0)) ∧ wd.heap.size ≤ s_.2) ?_ (fun F2q => ?_)
  ·rintro ⟨d0, q⟩ W ⟨hW, hI, hA, hq⟩
   refine norm_ (a' := ?_) ?_ ?_
   rotate_left
   ·simp only [putAll, Act.put, List.setIfInBounds_toArray, List.set_cons_zero, List.set_cons_succ, i64_w, i32_w]
    rfl
   refine one_ (i := 3) (N := some 31) (tr [4, 4, 1, 2]) rfl rfl (by kernel_rfl) (by decide) (fun K hK => ?_)
   refine goes_ Tryz.func9 (by kernel_rfl) rfl #[.agg (saVl s SA SC)] (by rfl) rfl rfl MT ?_
   refine (laws_toSa.calls k s.f0 s.f1 s.f2 s.f3 s.f4 s.f5 s.f6 s.f7 s.f8 s.f9.f0 SA SC s.f9.f1 z.f0 z.f1 z.f2 z.f3 z.f4 z.f5 z.f6 z.f7 z.f8 z.f9.f0 z.f9.f1 W (Kd.C_below LS.out hW) hSl T9.out).mono ?_
   rintro e W' ⟨v, rfl, hv, hb⟩
   have hW' := below_then hW hW.size hb
   refine ⟨_, rfl, hK.out _ _ (SS W' hW') (fun hH => ?_)⟩
   exact norm_ NM (F3q (d0, v, q) W' ⟨hW', hI.below hb, Kd.R_reads hv, (hb.block q (blk_lt hA)).trans hA, hq⟩)
  refine join_ (σ := Array Value) 8 (tf 3 8) (fun s_ => [(29, .agg s_)]) (fun s_ W => Below wd.heap.size wd W ∧ IG W s_ y0 y1 y2 y3 y4 y5) ?_ (fun F2 => ?_)
  ·rintro d0 W ⟨hW, hI⟩
   refine norm_ (a' := ?_) ?_ ?_
   rotate_left
   ·simp only [putAll, Act.put, List.setIfInBounds_toArray, List.set_cons_zero, List.set_cons_succ, i64_w, i32_w]
    rfl
   refine two_ (i := 3) (j := 8) (Ni := some 31) (Nj := some 6) (tf 4 7) (tr [3, 5, 1, 2]) rfl rfl rfl rfl (by kernel_rfl) (by decide) (by decide) (fun K hK => ?_) (fun K hK => ?_)
   ·refine goes_ Tryz.func9 (by kernel_rfl) rfl #[.agg (saVl s SA SC)] (by rfl) rfl rfl MT ?_
    refine (laws_toSa.calls k s.f0 s.f1 s.f2 s.f3 s.f4 s.f5 s.f6 s.f7 s.f8 s.f9.f0 SA SC s.f9.f1 z.f0 z.f1 z.f2 z.f3 z.f4 z.f5 z.f6 z.f7 z.f8 z.f9.f0 z.f9.f1 W (Kd.C_below LS.out hW) hSl T9.out).mono ?_
    rintro e W' ⟨v, rfl, hv, hb⟩
    have hW' := below_then hW hW.size hb
    refine ⟨_, rfl, hK.out _ _ (SS W' hW') (fun hH => ?_)⟩
    exact norm_ NM (F3 (d0, v) W' ⟨hW', hI.below hb, Kd.R_reads hv⟩)
   ·refine box_step rfl (N := 6) rfl (cs := #[.int .i64 0, .slice none 0 0, .int .i64 0, .slice none 0 0, .slice none 0 0, .slice none 0 0]) (t := 42) BX ?_
    intro q hq W' hA hb
    have hW' := below_then hW hW.size hb
    refine hK.out _ _ (SS W' hW') (fun hH => ?_)
    exact norm_ NM (F2q (d0, q) W' ⟨hW', hI.below hb, hA, by rw [hq]; exact hW.size⟩)
  obtain ⟨W, hwW⟩ : ∃ W, W = wd := ⟨_, rfl⟩
  have hW : Below wd.heap.size wd W := by rw [hwW]; exact Below.refl _ _
  rw [← hwW]
  refine two_ (i := 1) (j := 8) (Ni := some 29) (Nj := some 6) (tf 3 8) (tr [1, 1, 1, 5, 1, 2]) rfl rfl rfl rfl (by kernel_rfl) (by decide) (by decide) (fun K hK => ?_) (fun K hK => ?_)
  ·refine goes_ Tryz.func8 (by kernel_rfl) rfl #[.agg cs] (by rfl) rfl rfl MT ?_
   refine (toG k cs x0 x1 x2 x3 x4 x5 y0 y1 y2 y3 y4 y5 W (LL.out.below hW) T1.out).mono ?_
   rintro e W' ⟨d0, _, _, rfl, hO, _, hb⟩
   have hW' := below_then hW hW.size hb
   refine ⟨_, rfl, hK.out _ _ (SS W' hW') (fun hH => ?_)⟩
   exact norm_ NM (F2 d0 W' ⟨hW', hO.read⟩)
  ·refine box_step rfl (N := 6) rfl (cs := #[.int .i64 0, .slice none 0 0, .int .i64 0, .slice none 0 0, .slice none 0 0, .slice none 0 0]) (t := 42) BX ?_
   intro q hq W hA hb
   replace hq := (show wd.heap.size ≤ q by rw [hq]; exact hW.size)
   replace hW := below_then hW hW.size hb
   refine hK.out _ _ (SS W hW) (fun hH => ?_)
   clear hK K hb
   refine norm_ (a' := ?_) ?_ ?_
   rotate_left
   ·simp only [putAll, Act.put, List.setIfInBounds_toArray, List.set_cons_zero, List.set_cons_succ, i64_w, i32_w]
    rfl
   refine one_ (i := 1) (N := some 29) (tr [3, 5, 1, 2]) rfl rfl (by kernel_rfl) (by decide) (fun K hK => ?_)
   refine goes_ Tryz.func8 (by kernel_rfl) rfl #[.agg cs] (by rfl) rfl rfl MT ?_
   refine (toG k cs x0 x1 x2 x3 x4 x5 y0 y1 y2 y3 y4 y5 W (LL.out.below hW) T1.out).mono ?_
   rintro e W' ⟨d0, _, _, rfl, hO, _, hb⟩
   have hW' := below_then hW hW.size hb
   refine ⟨_, rfl, hK.out _ _ (SS W' hW') (fun hH => ?_)⟩
   exact norm_ NM (F2q (d0, q) W' ⟨hW', hO.read, (hb.block q (blk_lt hA)).trans hA, hq⟩)
 rintro ⟨d0, v0, dw, q6⟩ W4 ⟨hW, hN, hA, hq⟩
 refine norm_ (a' := ?_) ?_ ?_
 rotate_left
 ·simp only [putAll, Act.put, List.setIfInBounds_toArray, List.set_cons_zero, List.set_cons_succ, i64_w, i32_w]
  rfl
 dsimp only at hW hN hA hq
 have hZ := (hN.set (fun _ _ => rfl)).size
 refine one_ (i := 9) (N := none) (tf 10 1) rfl rfl (by kernel_rfl) (by decide) (fun K hK => ?_)
 refine fill_ (by rfl) rfl (.tmp 6) (.tmp 33) rfl dw (by rfl) (by rfl) hA hZ.1 (by rw [hZ.1]; kernel_rfl) hZ.2 hW hq ?_
 intro wq hA hb hf
 refine hK.out _ _ (SS wq hb) (fun hH => ?_)
 clear hK K
 refine tk 10 (some 7) (tf 11 0) (by kernel_rfl) hH ?_
 refine done_ (by kernel_rfl) ?_
 have IW := am (hN.set hf)
 have ZW := am hZ
 have B6 := am hA
 replace B1 := kpW B1 hb
 replace BS := kpW BS hb
 replace HB := kpH HB hb
 replace LL := am (LL.out.below hb)
 replace LS := am (Kd.C_below LS.out hb)
 clear hA hb hf hN hW hq hZ hH SS hbd
 generalize hwx : wq = wx at *
 clear hwx
 have HX := am (Below.refl wx.heap.size wx)
 have LLx := am LL.out
 have LSx := am LS.out
 have IWx := am IW.out
 have HBx := am HB.out
 have Q1 := am (blk_lt B1.out)
 have QS := am (blk_lt BS.out)
 have Q6 := am (blk_lt B6.out)
 clear LL LS IW
 go_upto_region 10 with (first | ((with_reducible refine gate_dst (N := 35) rfl ?_); refine ldbox (t := 28) rfl (.tmp 2) rfl (by rfl) cs B1.out hu28 rfl (by rw [Array.length_toList, ZL.out.1]; kernel_rfl) ?_) | (go_at_call 8; refine (toG k cs x0 x1 x2 x3 x4 x5 y0 y1 y2 y3 y4 y5 _ LLx.out T1.out).mono ?_; rintro e wq ⟨dx, Nx, tx, rfl, hO, htx, hb⟩; have OX := am hO; have S0 := am htx; have ZX := am hO.read.size; clear hO htx; replace B1 := kpW B1 hb; replace BS := kpW BS hb; replace B6 := kpW B6 hb; replace HB := kpH HB hb; replace HX := kpH HX hb; clear hb) | ((with_reducible refine gate_dst (N := 8) rfl ?_); refine mkboxg (N := 8) rfl rfl (cs := #[.int .i64 0, .slice none 0 0, .int .i64 0, .slice none 0 0, .slice none 0 0, .slice none 0 0]) (t := 42) BX rfl rfl (.tmp 8) (.tmp 36) rfl dx (by intro v; rfl) (by intro v; rfl) ZX.out.1 (by rw [ZX.out.1]; kernel_rfl) ZX.out.2 ?_; intro q8 wq hq hA hb; replace B1 := kpW B1 hb; replace BS := kpW BS hb; replace B6 := kpW B6 hb; replace HB := kpH HB hb; replace HX := kpH HX hb; replace OX := kpO OX hb; replace S0 := am (Nat.le_trans S0.out hb.size); have B8 := am hA; clear hA hb hq))
 generalize hwy : wq = wy at *
 clear hwy
 have hXY := HX.out.size
 have XY := am hXY
 clear hXY
 have XT := am S0.out
 go_upto_region 11 with (first | ((with_reducible refine gate_dst (N := 37) rfl ?_); refine ldbox (t := 33) rfl (.tmp 3) rfl (by rfl) (saVl s SA SC) BS.out hu33 rfl (by kernel_rfl) ?_) | (go_at_call 9; refine (laws_toSa.calls k s.f0 s.f1 s.f2 s.f3 s.f4 s.f5 s.f6 s.f7 s.f8 s.f9.f0 SA SC s.f9.f1 z.f0 z.f1 z.f2 z.f3 z.f4 z.f5 z.f6 z.f7 z.f8 z.f9.f0 z.f9.f1 _ (Kd.C_below LSx.out HX.out) hSl T9.out).mono ?_; rintro e wq ⟨vx, rfl, hv, hb⟩; obtain ⟨VA, VC, rfl⟩ := Kd.R_slice hv; obtain ⟨ts, hts⟩ : ∃ t, t = wq.heap.size := ⟨_, rfl⟩; have RX := am (Kd.R_mono (ok' := fun k => wy.heap.size ≤ k ∧ k < ts) (Kd.R_lower (Kd.R_bound hv) XY.out) (fun k h => ⟨h.2.1, by rw [hts]; exact h.2.2.1⟩)); have TS := am (Nat.le_of_eq hts); replace B1 := kpW B1 hb; replace BS := kpW BS hb; replace B6 := kpW B6 hb; replace HB := kpH HB hb; replace HX := kpH HX hb; replace OX := kpO OX hb; replace B8 := kpW B8 hb; replace S0 := am (Nat.le_trans S0.out hb.size); clear hts hv hb) | ((with_reducible refine gate_dst (N := 9) rfl ?_); refine mkboxg (N := 9) rfl rfl (cs := #[.int .i64 0, .int .i64 0, .string ⟨#[]⟩, .string ⟨#[]⟩, .int .i64 0, .int .i64 0, .int .i64 0, .int .i64 0, .int .i64 0, .int .i64 0, .slice none 0 0]) (t := 48) BX rfl rfl (.tmp 9) (.tmp 38) rfl (List.toArray (saZl z (.slice VA z.f9.f1.length VC))) (by intro v; rfl) (by intro v; rfl) rfl (by kernel_rfl) (by kernel_rfl) ?_; intro q9 wq hq hA hb; replace B1 := kpW B1 hb; replace BS := kpW BS hb; replace B6 := kpW B6 hb; replace HB := kpH HB hb; replace HX := kpH HX hb; replace OX := kpO OX hb; replace B8 := kpW B8 hb; have Q9 := am (show tx ≤ q9 by rw [hq]; exact S0.out); replace S0 := am (Nat.le_trans S0.out hb.size); replace RX := am (Kd.R_step RX.out (fun k _ hk => hb.block k hk)); replace TS := am (Nat.le_trans TS.out hb.size); have B9 := am hA; clear hA hb hq))
 generalize hwg : wq = wg at *
 clear hwg
 have TG := am S0.out
 have TG2 := am TS.out
 have TW := am HX.out.size
 have rr : (r != r) = false := by simp
 go_upto_region 12 with (first | ((with_reducible refine gate_dst (N := 40) rfl ?_); refine ldbox (t := 42) rfl (.tmp 8) rfl (by rfl) dx B8.out hu42 rfl (by rw [Array.length_toList, ZX.out.1]; kernel_rfl) ?_) | ((with_reducible refine gate_dst (N := 41) rfl ?_); refine ldbox (t := 48) rfl (.tmp 9) rfl (by rfl) (List.toArray (saZl z (.slice VA z.f9.f1.length VC))) B9.out hu48 rfl (by kernel_rfl) ?_) | (go_at_call 10; refine (imK k dx y0 y1 y2 y3 y4 y5 z _ g0 g1 g2 g3 g4 g5 r _ OX.out.read (k48_mk _ z (Kd.R_reads' RX.out).2.1 (Kd.R_reads' RX.out).2.2) T3.out).mono ?_; rintro e wq ⟨dg, Ng, tg, rfl, hO, htg, hb⟩; have OG1 := am hO; have S1 := am htg; have ZG := am hO.read.size; clear hO htg; replace B1 := kpW B1 hb; replace BS := kpW BS hb; replace B6 := kpW B6 hb; replace HB := kpH HB hb; replace HX := kpH HX hb; replace OX := kpO OX hb; replace B8 := kpW B8 hb; replace B9 := kpW B9 hb; replace RX := am (Kd.R_step RX.out (fun k _ hk => hb.block k hk)); replace S0 := am (Nat.le_trans S0.out hb.size); replace TS := am (Nat.le_trans TS.out hb.size); clear hb) | ((with_reducible refine gate_dst (N := 10) rfl ?_); refine mkboxg (N := 10) rfl rfl (cs := #[.int .i64 0, .slice none 0 0, .int .i64 0, .slice none 0 0, .slice none 0 0, .slice none 0 0]) (t := 42) BX rfl rfl (.tmp 10) (.tmp 43) rfl dg (by intro v; rfl) (by intro v; rfl) ZG.out.1 (by rw [ZG.out.1]; kernel_rfl) ZG.out.2 ?_; intro q10 wq hq hA hb; have Q10 := am (show tg ≤ q10 ∧ tx ≤ q10 ∧ ts ≤ q10 by rw [hq]; exact ⟨S1.out, S0.out, TS.out⟩); replace B1 := kpW B1 hb; replace BS := kpW BS hb; replace B6 := kpW B6 hb; replace HB := kpH HB hb; replace HX := kpH HX hb; replace OX := kpO OX hb; replace B8 := kpW B8 hb; replace B9 := kpW B9 hb; replace RX := am (Kd.R_step RX.out (fun k _ hk => hb.block k hk)); replace S0 := am (Nat.le_trans S0.out hb.size); replace TS := am (Nat.le_trans TS.out hb.size); replace OG1 := kpO OG1 hb; replace S1 := am (Nat.le_trans S1.out hb.size); have B10 := am hA; clear hA hb hq))
 go_upto_region 14 with (first | ((with_reducible refine gate_dst (N := 45) rfl ?_); refine ldbox (t := 42) rfl (.tmp 10) rfl (by rfl) dg B10.out hu42 rfl (by rw [Array.length_toList, ZG.out.1]; kernel_rfl) ?_) | ((with_reducible refine gate_dst (N := 46) rfl ?_); refine ldbox (t := 42) rfl (.tmp 6) rfl (by rfl) dw B6.out hu42 rfl (by rw [Array.length_toList, ZW.out.1]; kernel_rfl) ?_) | (go_at_call 11; refine (eqGt k dg dw g0 g1 g2 g3 g4 g5 _ OG1.out.read (IWx.out.below HX.out) T4.out.1 T4.out.2).mono ?_; rintro e wq ⟨rfl, hb⟩; replace B1 := kpW B1 hb; replace BS := kpW BS hb; replace B6 := kpW B6 hb; replace HB := kpH HB hb; replace HX := kpH HX hb; replace OX := kpO OX hb; replace B8 := kpW B8 hb; replace B9 := kpW B9 hb; replace RX := am (Kd.R_step RX.out (fun k _ hk => hb.block k hk)); replace S0 := am (Nat.le_trans S0.out hb.size); replace TS := am (Nat.le_trans TS.out hb.size); replace OG1 := kpO OG1 hb; replace S1 := am (Nat.le_trans S1.out hb.size); replace B10 := kpW B10 hb; clear hb))
 have hd := am (below_drew (Below.refl wq.heap.size wq))
 refine start_ (n := 5) (S := fun w' => w'.heap[q8]? = some (.cells dx 42 (0, 0)) ∧ w'.heap[q1]? = some (.cells cs 28 (0, 0))) (ds := []) (tf 0 5) (by kernel_rfl) rfl rfl ⟨B8.out, B1.out⟩ (fun hHeld => ?_)
 refine tk 0 (some 54) (tf 1 4) (by kernel_rfl) hHeld ?_ (hy := yld (by rfl) (.tmp 8) rfl (by rfl) dx (fun w h => h.1) hu42 rfl (by rw [Array.length_toList, ZX.out.1]; kernel_rfl))
 refine tk 1 (some 55) (tf 2 3) (by kernel_rfl) hHeld ?_ (hy := yld (by rfl) (.tmp 2) rfl (by rfl) cs (fun w h => h.2) hu28 rfl (by rw [Array.length_toList, ZL.out.1]; kernel_rfl))
 refine one_ (i := 2) (N := some 56) (tf 3 2) rfl rfl (by kernel_rfl) (by decide) (fun K hK => ?_)
 refine goes_ Tryz.func8 (by kernel_rfl) rfl #[.agg cs] (by rfl) rfl rfl MT ?_
 refine (toG k cs x0 x1 x2 x3 x4 x5 y0 y1 y2 y3 y4 y5 _ (LLx.out.below (below_step HX.out hd.out)) T1.out).mono ?_
 rintro e wq' ⟨d3, N3, t3, rfl, hO, _, hb0⟩
 have I3 := am hO.read
 clear hO
 have hb := hd.out.trans (hb0.mono hd.out.size)
 replace B1 := kpW B1 hb
 replace BS := kpW BS hb
 replace B6 := kpW B6 hb
 replace HB := kpH HB hb
 replace HX := kpH HX hb
 replace OX := kpO OX hb
 replace B8 := kpW B8 hb
 replace B9 := kpW B9 hb
 replace RX := am (Kd.R_step RX.out (fun k _ hk => hb.block k hk))
 replace S0 := am (Nat.le_trans S0.out hb.size)
 replace TS := am (Nat.le_trans TS.out hb.size)
 replace OG1 := kpO OG1 hb
 replace S1 := am (Nat.le_trans S1.out hb.size)
 replace B10 := kpW B10 hb
 clear hb
 refine ⟨_, rfl, ?_⟩
 refine hK.out _ _ ⟨B8.out, B1.out⟩ (fun hHeld => ?_)
 clear hK K hHeld hb0 hd
 refine nm (some 56) ?_
 refine one_ (i := 3) (N := some 57) (tf 4 1) rfl rfl (by kernel_rfl) (by decide) (fun K hK => ?_)
 refine goes_ Tryz.func11 (by kernel_rfl) rfl #[.agg dx, .agg d3] (by rfl) rfl rfl MT ?_
 refine (eqGt k dx d3 y0 y1 y2 y3 y4 y5 _ OX.out.read I3.out T5.out.1 T5.out.2).mono ?_
 rintro e wq ⟨rfl, hb⟩
 clear I3
 replace B1 := kpW B1 hb
 replace BS := kpW BS hb
 replace B6 := kpW B6 hb
 replace HB := kpH HB hb
 replace HX := kpH HX hb
 replace OX := kpO OX hb
 replace B8 := kpW B8 hb
 replace B9 := kpW B9 hb
 replace RX := am (Kd.R_step RX.out (fun k _ hk => hb.block k hk))
 replace S0 := am (Nat.le_trans S0.out hb.size)
 replace TS := am (Nat.le_trans TS.out hb.size)
 replace OG1 := kpO OG1 hb
 replace S1 := am (Nat.le_trans S1.out hb.size)
 replace B10 := kpW B10 hb
 clear hb
 refine ⟨_, rfl, ?_⟩
 refine hK.out _ _ ⟨B8.out, B1.out⟩ (fun hHeld => ?_)
 clear hK K
 refine nm (some 57) ?_
 refine tk 4 (some 58) (tf 5 0) (by kernel_rfl) hHeld ?_
 clear hHeld
 refine done_ (by kernel_rfl) ?_
 go_upto_region 16 with fail
 have hd := am (below_drew (Below.refl wq.heap.size wq))
 refine start_ (n := 5) (S := fun w' => w'.heap[q9]? = some (.cells (List.toArray (saZl z (.slice VA z.f9.f1.length VC))) 48 (0, 0)) ∧ w'.heap[qs]? = some (.cells (saVl s SA SC) 33 (0, 0))) (ds := []) (tf 0 5) (by kernel_rfl) rfl rfl ⟨B9.out, BS.out⟩ (fun hHeld => ?_)
 refine tk 0 (some 59) (tf 1 4) (by kernel_rfl) hHeld ?_ (hy := yld (by rfl) (.tmp 9) rfl (by rfl) (List.toArray (saZl z (.slice VA z.f9.f1.length VC))) (fun w h => h.1) hu48 rfl (by kernel_rfl))
 refine tk 1 (some 60) (tf 2 3) (by kernel_rfl) hHeld ?_ (hy := yld (by rfl) (.tmp 3) rfl (by rfl) (saVl s SA SC) (fun w h => h.2) hu33 rfl (by kernel_rfl))
 refine one_ (i := 2) (N := some 61) (tf 3 2) rfl rfl (by kernel_rfl) (by decide) (fun K hK => ?_)
 refine goes_ Tryz.func9 (by kernel_rfl) rfl #[.agg (saVl s SA SC)] (by rfl) rfl rfl MT ?_
 refine (laws_toSa.calls k s.f0 s.f1 s.f2 s.f3 s.f4 s.f5 s.f6 s.f7 s.f8 s.f9.f0 SA SC s.f9.f1 z.f0 z.f1 z.f2 z.f3 z.f4 z.f5 z.f6 z.f7 z.f8 z.f9.f0 z.f9.f1 _ (Kd.C_below LSx.out (below_step HX.out hd.out)) hSl T9.out).mono ?_
 rintro e wq' ⟨v3, rfl, hv3, hb0⟩
 obtain ⟨V3, C3, rfl⟩ := Kd.R_slice hv3
 have I3 := am (Kd.R_reads' hv3).2
 clear hv3
 have hb := hd.out.trans (hb0.mono hd.out.size)
 replace B1 := kpW B1 hb
 replace BS := kpW BS hb
 replace B6 := kpW B6 hb
 replace HB := kpH HB hb
 replace HX := kpH HX hb
 replace OX := kpO OX hb
 replace B8 := kpW B8 hb
 replace B9 := kpW B9 hb
 replace RX := am (Kd.R_step RX.out (fun k _ hk => hb.block k hk))
 replace S0 := am (Nat.le_trans S0.out hb.size)
 replace TS := am (Nat.le_trans TS.out hb.size)
 replace OG1 := kpO OG1 hb
 replace S1 := am (Nat.le_trans S1.out hb.size)
 replace B10 := kpW B10 hb
 clear hb
 refine ⟨_, rfl, ?_⟩
 refine hK.out _ _ ⟨B9.out, BS.out⟩ (fun hHeld => ?_)
 clear hK K hHeld hb0 hd
 refine nm (some 61) ?_
 refine one_ (i := 3) (N := some 62) (tf 4 1) rfl rfl (by kernel_rfl) (by decide) (fun K hK => ?_)
 refine goes_ Tryz.func12 (by kernel_rfl) rfl #[.agg (List.toArray (saZl z (.slice VA z.f9.f1.length VC))), .agg (List.toArray (saZl z (.slice V3 z.f9.f1.length C3)))] (by rfl) rfl rfl MT ?_
 refine (eqSaE.run k z VA V3 VC C3 _ (Kd.R_reads' RX.out).2.2 (Kd.R_reads' RX.out).2.1 I3.out.2 I3.out.1 T55.out).mono ?_
 rintro e wq ⟨rfl, hb⟩
 clear I3
 replace B1 := kpW B1 hb
 replace BS := kpW BS hb
 replace B6 := kpW B6 hb
 replace HB := kpH HB hb
 replace HX := kpH HX hb
 replace OX := kpO OX hb
 replace B8 := kpW B8 hb
 replace B9 := kpW B9 hb
 replace RX := am (Kd.R_step RX.out (fun k _ hk => hb.block k hk))
 replace S0 := am (Nat.le_trans S0.out hb.size)
 replace TS := am (Nat.le_trans TS.out hb.size)
 replace OG1 := kpO OG1 hb
 replace S1 := am (Nat.le_trans S1.out hb.size)
 replace B10 := kpW B10 hb
 clear hb
 refine ⟨_, rfl, ?_⟩
 refine hK.out _ _ ⟨B9.out, BS.out⟩ (fun hHeld => ?_)
 clear hK K
 refine nm (some 62) ?_
 refine tk 4 (some 63) (tf 5 0) (by kernel_rfl) hHeld ?_
 clear hHeld
 refine done_ (by kernel_rfl) ?_
 go_upto_region 18 with fail
 go_upto_region 20 with (first | ((with_reducible refine gate_dst (N := 64) rfl ?_); refine ldbox (t := 42) rfl (.tmp 8) rfl (by rfl) dx B8.out hu42 rfl (by rw [Array.length_toList, ZX.out.1]; kernel_rfl) ?_) | (go_at_call 13; refine (mkG k dx y0 y1 y2 y3 y4 y5 1 m1 n1 n3 n4 n5 Nx tx wx _ HX.out S0.out OX.out T6.out).mono ?_; rintro e wq ⟨rfl, _, hbx, hk⟩; clear OX B8; replace OG1 := am (OG1.out.keep (fun k h1 h2 h3 => hk.2 k h3 (fun h => by have := TG.out; omega))); replace B1 := am ((hk.2 q1 (blk_lt B1.out) (fun h => by have := Q1.out; omega)).trans B1.out); replace BS := am ((hk.2 qs (blk_lt BS.out) (fun h => by have := QS.out; omega)).trans BS.out); replace B6 := am ((hk.2 q6 (blk_lt B6.out) (fun h => by have := Q6.out; omega)).trans B6.out); replace B9 := am ((hk.2 q9 (blk_lt B9.out) (fun h => by have := Q9.out; omega)).trans B9.out); replace B10 := am ((hk.2 q10 (blk_lt B10.out) (fun h => by have := Q10.out.2.1; omega)).trans B10.out); replace RX := am (Kd.R_step RX.out (fun k h1 h2 => hk.2 k h2 (fun h => by have := XT.out; omega))); replace S1 := am (Nat.le_trans S1.out hk.1); replace TS := am (Nat.le_trans TS.out hk.1); replace HX := am hbx; replace HB := am (Below.trans HBx.out (hbx.mono HBx.out.size)); clear hbx hk S0))
 go_upto_region 21 with (first | ((with_reducible refine gate_dst (N := 67) rfl ?_); refine ldbox (t := 48) rfl (.tmp 9) rfl (by rfl) (List.toArray (saZl z (.slice VA z.f9.f1.length VC))) B9.out hu48 rfl (by kernel_rfl) ?_) | (go_at_call 14; refine (laws_markSa.calls k z.f0 z.f1 z.f2 z.f3 z.f4 z.f5 z.f6 z.f7 z.f8 z.f9.f0 (fun k => wy.heap.size ≤ k ∧ k < ts) _ z.f9.f1 m1 ms ns wx _ HX.out RX.out T56.out).mono ?_; rintro e wq ⟨rfl, _, hbx, hk⟩; clear RX B9; replace OG1 := am (OG1.out.keep (fun k h1 h2 h3 => hk.2 k h3 (fun h => by have := TG2.out; omega))); replace B1 := am ((hk.2 q1 (blk_lt B1.out) (fun h => by have := Q1.out; have := XY.out; omega)).trans B1.out); replace BS := am ((hk.2 qs (blk_lt BS.out) (fun h => by have := QS.out; have := XY.out; omega)).trans BS.out); replace B6 := am ((hk.2 q6 (blk_lt B6.out) (fun h => by have := Q6.out; have := XY.out; omega)).trans B6.out); replace B10 := am ((hk.2 q10 (blk_lt B10.out) (fun h => by have := Q10.out.2.2; omega)).trans B10.out); replace S1 := am (Nat.le_trans S1.out hk.1); replace HX := am hbx; replace HB := am (Below.trans HBx.out (hbx.mono HBx.out.size)); clear hbx hk TS))
 have dm := decide_eq_false (show ¬ ms < 0 by have := M1.out; omega)
 go_upto_region 23 with (first | ((with_reducible refine gate_dst (N := 73) rfl ?_); refine ldboxG (t := 42) (by rfl) (.tmp 10) rfl (by rfl) dg B10.out hu42 rfl (by rw [Array.length_toList, ZG.out.1]; kernel_rfl) ?_) | ((with_reducible refine gate_dst (N := 74) rfl ?_); refine ldboxG (t := 42) (by rfl) (.tmp 6) rfl (by rfl) dw B6.out hu42 rfl (by rw [Array.length_toList, ZW.out.1]; kernel_rfl) ?_) | (go_at_call 11; refine (eqGt k dg dw g0 g1 g2 g3 g4 g5 _ OG1.out.read (IWx.out.below HX.out) T4.out.1 T4.out.2).mono ?_; rintro e wq ⟨rfl, hb⟩; replace B1 := kpW B1 hb; replace BS := kpW BS hb; replace B6 := kpW B6 hb; replace HB := kpH HB hb; replace HX := kpH HX hb; replace OG1 := kpO OG1 hb; replace S1 := am (Nat.le_trans S1.out hb.size); replace B10 := kpW B10 hb; clear hb))
 go_upto_region 25 with (first | ((with_reducible refine gate_dst (N := 83) rfl ?_); refine ldbox (t := 42) rfl (.tmp 10) rfl (by rfl) dg B10.out hu42 rfl (by rw [Array.length_toList, ZG.out.1]; kernel_rfl) ?_) | (go_at_call 13; refine (mkG k dg g0 g1 g2 g3 g4 g5 1 m2 o1 o3 o4 o5 Ng tg wx _ HX.out S1.out (OG1.out.lower TW.out) T8.out).mono ?_; rintro e wq ⟨rfl, hO, hbx, hk⟩; clear OG1; have OG1 := am hO; replace B1 := am ((hk.2 q1 (blk_lt B1.out) (fun h => by have := Q1.out; omega)).trans B1.out); replace BS := am ((hk.2 qs (blk_lt BS.out) (fun h => by have := QS.out; omega)).trans BS.out); replace B6 := am ((hk.2 q6 (blk_lt B6.out) (fun h => by have := Q6.out; omega)).trans B6.out); replace B10 := am ((hk.2 q10 (blk_lt B10.out) (fun h => by have := Q10.out.1; omega)).trans B10.out); replace S1 := am (Nat.le_trans S1.out hk.1); replace HX := am hbx; replace HB := am (Below.trans HBx.out (hbx.mono HBx.out.size)); clear hO hbx hk))
 have dm2 := decide_eq_false (show ¬ m2 < 0 by have := M2.out; omega)
 have mm : (m2 != m2) = false := by simp
 go_upto_region 31 with (first | ((with_reducible refine gate_dst (N := 86) rfl ?_); refine ldbox (t := 42) rfl (.tmp 10) rfl (by rfl) dg B10.out hu42 rfl (by rw [Array.length_toList, ZG.out.1]; kernel_rfl) ?_) | (go_at_call 15; refine (heldG k dg g0 o1 g2 o3 o4 o5 1 m2 _ OG1.out.read T10.out).mono ?_; rintro e wq ⟨rfl, hb⟩; replace B1 := kpW B1 hb; replace BS := kpW BS hb; replace B6 := kpW B6 hb; replace HB := kpH HB hb; replace HX := kpH HX hb; replace OG1 := kpO OG1 hb; replace S1 := am (Nat.le_trans S1.out hb.size); replace B10 := kpW B10 hb; clear hb))
 have LL := am (LLx.out.below HX.out)
 have LS := am (Kd.C_below LSx.out HX.out)
 have hbd := below_drew (Below.refl wq.heap.size wq)
 refine start_ (n := 11) (S := fun w' => w'.heap[q1]? = some (.cells cs 28 (0, 0)) ∧ w'.heap[qs]? = some (.cells (saVl s SA SC) 33 (0, 0))) (ds := []) (tf 0 11) (by kernel_rfl) rfl rfl ⟨B1.out, BS.out⟩ (fun hHeld => ?_)
 replace B1 := kpW B1 hbd; replace BS := kpW BS hbd; replace B6 := kpW B6 hbd; replace HB := kpH HB hbd; replace HX := kpH HX hbd; replace OG1 := kpO OG1 hbd; replace S1 := am (Nat.le_trans S1.out hbd.size); replace B10 := kpW B10 hbd; replace LL := am (LL.out.below hbd); replace LS := am (Kd.C_below LS.out hbd)
 generalize wq.drew = wd at *
 refine tk 0 (some 95) (tf 1 10) (by kernel_rfl) hHeld ?_ (hy := yld (by rfl) (.tmp 2) rfl (by rfl) cs (fun w h => h.1) hu28 rfl (by rw [Array.length_toList, ZL.out.1]; kernel_rfl))
 refine tk 2 (some 97) (tr [1, 1, 1, 8]) (by kernel_rfl) hHeld ?_ (hy := yld (by rfl) (.tmp 3) rfl (by rfl) (saVl s SA SC) (fun w h => h.2) hu33 rfl (by kernel_rfl))
 clear hHeld
 have SS : ∀ W, Below wd.heap.size wd W → (W.heap[q1]? = some (.cells cs 28 (0, 0)) ∧ W.heap[qs]? = some (.cells (saVl s SA SC) 33 (0, 0))) := fun W h => ⟨blk_below B1.out h, blk_below BS.out h⟩
 refine join_ (σ := Array Value × Value × Array Value × Nat) 2 (tf 9 2) (fun s_ => [(96, .agg s_.1), (98, .agg (List.toArray (saZl z (s_.2.1)))), (99, .tuple #[.agg s_.2.2.1, .bool r]), (94, .tuple #[.agg s_.2.2.1, .bool r]), (100, .agg s_.2.2.1), (101, .bool r), (15, .pointer (some ⟨s_.2.2.2, 0, none⟩))]) (fun s_ W => Below wd.heap.size wd W ∧ WN W (fun k => k ≠ s_.2.2.2) s_.2.2.1 g0 g1 g2 g3 g4 g5 ∧ W.heap[s_.2.2.2]? = some (.cells #[.int .i64 0, .slice none 0 0, .int .i64 0, .slice none 0 0, .slice none 0 0, .slice none 0 0] 42 (0, 0)) ∧ wd.heap.size ≤ s_.2.2.2) ?_ (fun F4 => ?_)
 rotate_left
 ·skip
  refine join_ (σ := Array Value × Value × Nat) 6 (tr [4, 4, 1, 2]) (fun s_ => [(96, .agg s_.1), (98, .agg (List.toArray (saZl z (s_.2.1)))), (15, .pointer (some ⟨s_.2.2, 0, none⟩))]) (fun s_ W => Below wd.heap.size wd W ∧ IG W s_.1 y0 y1 y2 y3 y4 y5 ∧ RV (Kd.int .i64) W s_.2.1 z.f9.f1 ∧ W.heap[s_.2.2]? = some (.cells #[.int .i64 0, .slice none 0 0, .int .i64 0, .slice none 0 0, .slice none 0 0, .slice none 0 0] 42 (0, 0)) ∧ wd.heap.size ≤ s_.2.2) ?_ (fun F3q => ?_)
  ·rintro ⟨d0, _, q⟩ W ⟨hW, hI, ⟨A', c', rfl, hl', hC'⟩, hA, hq⟩
   refine norm_ (a' := ?_) ?_ ?_
   rotate_left
   ·simp only [putAll, Act.put, List.setIfInBounds_toArray, List.set_cons_zero, List.set_cons_succ, i64_w, i32_w]
    rfl
   refine one_ (i := 4) (N := some 99) (tr [5, 3, 1, 2]) rfl rfl (by kernel_rfl) (by decide) (fun K hK => ?_)
   refine goes_ Tryz.func10 (by kernel_rfl) rfl #[.agg d0, .agg (List.toArray (saZl z (.slice A' z.f9.f1.length c')))] (by rfl) rfl rfl MT ?_
   refine (iwKI k d0 y0 y1 y2 y3 y4 y5 z _ g0 g1 g2 g3 g4 g5 r W hI (k48_mk W z hl' hC') T3.out).mono ?_
   rintro e W' ⟨ds, rfl, hN, hb⟩
   have hW' := below_then hW hW.size hb
   refine ⟨_, rfl, hK.out _ _ (SS W' hW') (fun hH => ?_)⟩
   refine norm_ (a' := ?_) ?_ ?_
   rotate_left
   ·simp only [putAll, Act.put, List.setIfInBounds_toArray, List.set_cons_zero, List.set_cons_succ, i64_w, i32_w]
    rfl
   refine tk 5 (some 94) (tr [6, 2, 1, 2]) (by kernel_rfl) hH ?_
   refine tk 6 (some 100) (tr [7, 1, 1, 2]) (by kernel_rfl) hH ?_
   refine tk 7 (some 101) (tf 9 2) (by kernel_rfl) hH ?_
   exact norm_ NM (F4 (d0, .slice A' z.f9.f1.length c', ds, q) W' ⟨hW', hN.mon (fun k hk => show k ≠ q by have h1 : q < W.heap.size := blk_lt hA; have h2 : W.heap.size ≤ k := hk; omega), (hb.block q (blk_lt hA)).trans hA, hq⟩)
  refine join_ (σ := Array Value × Value) 7 (tf 4 7) (fun s_ => [(96, .agg s_.1), (98, .agg (List.toArray (saZl z (s_.2))))]) (fun s_ W => Below wd.heap.size wd W ∧ IG W s_.1 y0 y1 y2 y3 y4 y5 ∧ RV (Kd.int .i64) W s_.2 z.f9.f1) ?_ (fun F3 => ?_)
  ·rintro ⟨d0, _⟩ W ⟨hW, hI, ⟨A', c', rfl, hl', hC'⟩⟩
   refine norm_ (a' := ?_) ?_ ?_
   rotate_left
   ·simp only [putAll, Act.put, List.setIfInBounds_toArray, List.set_cons_zero, List.set_cons_succ, i64_w, i32_w]
    rfl
   refine two_ (i := 4) (j := 8) (Ni := some 99) (Nj := some 15) (tf 5 6) (tr [4, 4, 1, 2]) rfl rfl rfl rfl (by kernel_rfl) (by decide) (by decide) (fun K hK => ?_) (fun K hK => ?_)
   ·refine goes_ Tryz.func10 (by kernel_rfl) rfl #[.agg d0, .agg (List.toArray (saZl z (.slice A' z.f9.f1.length c')))] (by rfl) rfl rfl MT ?_
    refine (iwKI k d0 y0 y1 y2 y3 y4 y5 z _ g0 g1 g2 g3 g4 g5 r W hI (k48_mk W z hl' hC') T3.out).mono ?_
    rintro e W' ⟨ds, rfl, hN, hb⟩
    have hW' := below_then hW hW.size hb
    refine ⟨_, rfl, hK.out _ _ (SS W' hW') (fun hH => ?_)⟩
    refine norm_ (a' := ?_) ?_ ?_
    rotate_left
    ·simp only [putAll, Act.put, List.setIfInBounds_toArray, List.set_cons_zero, List.set_cons_succ, i64_w, i32_w]
     rfl
    refine tk 5 (some 94) (tf 6 5) (by kernel_rfl) hH ?_
    refine tk 6 (some 100) (tf 7 4) (by kernel_rfl) hH ?_
    refine tk 7 (some 101) (tf 8 3) (by kernel_rfl) hH ?_
    clear hK K
    refine one_ (i := 8) (N := some 15) (tf 9 2) rfl rfl (by kernel_rfl) (by decide) (fun K hK => ?_)
    refine box_step rfl (N := 15) rfl (cs := #[.int .i64 0, .slice none 0 0, .int .i64 0, .slice none 0 0, .slice none 0 0, .slice none 0 0]) (t := 42) BX ?_
    intro q hq W2 hA hb2
    have hW2 := below_then hW' hW'.size hb2
    refine hK.out _ _ (SS W2 hW2) (fun hH => ?_)
    exact norm_ NM (F4 (d0, .slice A' z.f9.f1.length c', ds, q) W2 ⟨hW2, hN.below hb2 q (Nat.le_of_eq hq.symm), hA, by rw [hq]; exact hW'.size⟩)
   ·refine box_step rfl (N := 15) rfl (cs := #[.int .i64 0, .slice none 0 0, .int .i64 0, .slice none 0 0, .slice none 0 0, .slice none 0 0]) (t := 42) BX ?_
    intro q hq W' hA hb
    have hW' := below_then hW hW.size hb
    refine hK.out _ _ (SS W' hW') (fun hH => ?_)
    exact norm_ NM (F3q (d0, .slice A' z.f9.f1.length c', q) W' ⟨hW', hI.below hb, ⟨A', c', rfl, hl', Kd.C_below hC' hb⟩, hA, by rw [hq]; exact hW.size⟩)
  refine join_ (σ := Array Value × Nat) 7 (tr [3, 5, 1, 2]) (fun s_ => [(96, .agg s_.1), (15, .pointer (some ⟨s_.2, 0, none⟩))]) (fun s_ W => Below wd.heap.size wd W ∧ IG W s_.1 y0 y1 y2 y3 y4 y5 ∧ W.heap[s_.2]? = some (.cells #[.int .i64 0, .slice none 0 0, .int .i64 0, .slice none 0 0, .slice none 0 0, .slice none 0 0] 42 (0, 0)) ∧ wd.heap.size ≤ s_.2) ?_ (fun F2q => ?_)
  ·rintro ⟨d0, q⟩ W ⟨hW, hI, hA, hq⟩
   refine norm_ (a' := ?_) ?_ ?_
   rotate_left
   ·simp only [putAll, Act.put, List.setIfInBounds_toArray, List.set_cons_zero, List.set_cons_succ, i64_w, i32_w]
    rfl
   refine one_ (i := 3) (N := some 98) (tr [4, 4, 1, 2]) rfl rfl (by kernel_rfl) (by decide) (fun K hK => ?_)
   refine goes_ Tryz.func9 (by kernel_rfl) rfl #[.agg (saVl s SA SC)] (by rfl) rfl rfl MT ?_
   refine (laws_toSa.calls k s.f0 s.f1 s.f2 s.f3 s.f4 s.f5 s.f6 s.f7 s.f8 s.f9.f0 SA SC s.f9.f1 z.f0 z.f1 z.f2 z.f3 z.f4 z.f5 z.f6 z.f7 z.f8 z.f9.f0 z.f9.f1 W (Kd.C_below LS.out hW) hSl T9.out).mono ?_
   rintro e W' ⟨v, rfl, hv, hb⟩
   have hW' := below_then hW hW.size hb
   refine ⟨_, rfl, hK.out _ _ (SS W' hW') (fun hH => ?_)⟩
   exact norm_ NM (F3q (d0, v, q) W' ⟨hW', hI.below hb, Kd.R_reads hv, (hb.block q (blk_lt hA)).trans hA, hq⟩)
  refine join_ (σ := Array Value) 8 (tf 3 8) (fun s_ => [(96, .agg s_)]) (fun s_ W => Below wd.heap.size wd W ∧ IG W s_ y0 y1 y2 y3 y4 y5) ?_ (fun F2 => ?_)
  ·rintro d0 W ⟨hW, hI⟩
   refine norm_ (a' := ?_) ?_ ?_
   rotate_left
   ·simp only [putAll, Act.put, List.setIfInBounds_toArray, List.set_cons_zero, List.set_cons_succ, i64_w, i32_w]
    rfl
   refine two_ (i := 3) (j := 8) (Ni := some 98) (Nj := some 15) (tf 4 7) (tr [3, 5, 1, 2]) rfl rfl rfl rfl (by kernel_rfl) (by decide) (by decide) (fun K hK => ?_) (fun K hK => ?_)
   ·refine goes_ Tryz.func9 (by kernel_rfl) rfl #[.agg (saVl s SA SC)] (by rfl) rfl rfl MT ?_
    refine (laws_toSa.calls k s.f0 s.f1 s.f2 s.f3 s.f4 s.f5 s.f6 s.f7 s.f8 s.f9.f0 SA SC s.f9.f1 z.f0 z.f1 z.f2 z.f3 z.f4 z.f5 z.f6 z.f7 z.f8 z.f9.f0 z.f9.f1 W (Kd.C_below LS.out hW) hSl T9.out).mono ?_
    rintro e W' ⟨v, rfl, hv, hb⟩
    have hW' := below_then hW hW.size hb
    refine ⟨_, rfl, hK.out _ _ (SS W' hW') (fun hH => ?_)⟩
    exact norm_ NM (F3 (d0, v) W' ⟨hW', hI.below hb, Kd.R_reads hv⟩)
   ·refine box_step rfl (N := 15) rfl (cs := #[.int .i64 0, .slice none 0 0, .int .i64 0, .slice none 0 0, .slice none 0 0, .slice none 0 0]) (t := 42) BX ?_
    intro q hq W' hA hb
    have hW' := below_then hW hW.size hb
    refine hK.out _ _ (SS W' hW') (fun hH => ?_)
    exact norm_ NM (F2q (d0, q) W' ⟨hW', hI.below hb, hA, by rw [hq]; exact hW.size⟩)
  obtain ⟨W, hwW⟩ : ∃ W, W = wd := ⟨_, rfl⟩
  have hW : Below wd.heap.size wd W := by rw [hwW]; exact Below.refl _ _
  rw [← hwW]
  refine two_ (i := 1) (j := 8) (Ni := some 96) (Nj := some 15) (tf 3 8) (tr [1, 1, 1, 5, 1, 2]) rfl rfl rfl rfl (by kernel_rfl) (by decide) (by decide) (fun K hK => ?_) (fun K hK => ?_)
  ·refine goes_ Tryz.func8 (by kernel_rfl) rfl #[.agg cs] (by rfl) rfl rfl MT ?_
   refine (toG k cs x0 x1 x2 x3 x4 x5 y0 y1 y2 y3 y4 y5 W (LL.out.below hW) T1.out).mono ?_
   rintro e W' ⟨d0, _, _, rfl, hO, _, hb⟩
   have hW' := below_then hW hW.size hb
   refine ⟨_, rfl, hK.out _ _ (SS W' hW') (fun hH => ?_)⟩
   exact norm_ NM (F2 d0 W' ⟨hW', hO.read⟩)
  ·refine box_step rfl (N := 15) rfl (cs := #[.int .i64 0, .slice none 0 0, .int .i64 0, .slice none 0 0, .slice none 0 0, .slice none 0 0]) (t := 42) BX ?_
   intro q hq W hA hb
   replace hq := (show wd.heap.size ≤ q by rw [hq]; exact hW.size)
   replace hW := below_then hW hW.size hb
   refine hK.out _ _ (SS W hW) (fun hH => ?_)
   clear hK K hb
   refine norm_ (a' := ?_) ?_ ?_
   rotate_left
   ·simp only [putAll, Act.put, List.setIfInBounds_toArray, List.set_cons_zero, List.set_cons_succ, i64_w, i32_w]
    rfl
   refine one_ (i := 1) (N := some 96) (tr [3, 5, 1, 2]) rfl rfl (by kernel_rfl) (by decide) (fun K hK => ?_)
   refine goes_ Tryz.func8 (by kernel_rfl) rfl #[.agg cs] (by rfl) rfl rfl MT ?_
   refine (toG k cs x0 x1 x2 x3 x4 x5 y0 y1 y2 y3 y4 y5 W (LL.out.below hW) T1.out).mono ?_
   rintro e W' ⟨d0, _, _, rfl, hO, _, hb⟩
   have hW' := below_then hW hW.size hb
   refine ⟨_, rfl, hK.out _ _ (SS W' hW') (fun hH => ?_)⟩
   exact norm_ NM (F2q (d0, q) W' ⟨hW', hO.read, (hb.block q (blk_lt hA)).trans hA, hq⟩)
 rintro ⟨d0, v0, dh, q15⟩ W4 ⟨hW, hN, hA, hq⟩
 refine norm_ (a' := ?_) ?_ ?_
 rotate_left
 ·simp only [putAll, Act.put, List.setIfInBounds_toArray, List.set_cons_zero, List.set_cons_succ, i64_w, i32_w]
  rfl
 dsimp only at hW hN hA hq
 have hZ := (hN.set (fun _ _ => rfl)).size
 refine one_ (i := 9) (N := none) (tf 10 1) rfl rfl (by kernel_rfl) (by decide) (fun K hK => ?_)
 refine fill_ (by rfl) rfl (.tmp 15) (.tmp 100) rfl dh (by rfl) (by rfl) hA hZ.1 (by rw [hZ.1]; kernel_rfl) hZ.2 hW hq ?_
 intro wq hA hb hf
 refine hK.out _ _ (SS wq hb) (fun hH => ?_)
 clear hK K
 refine tk 10 (some 16) (tf 11 0) (by kernel_rfl) hH ?_
 refine done_ (by kernel_rfl) ?_
 have IH := am (hN.set hf)
 have ZH := am hZ
 have B15 := am hA
 replace B1 := kpW B1 hb
 replace BS := kpW BS hb
 replace B6 := kpW B6 hb
 replace HB := kpH HB hb
 replace HX := kpH HX hb
 replace OG1 := kpO OG1 hb
 replace S1 := am (Nat.le_trans S1.out hb.size)
 replace B10 := kpW B10 hb
 clear hA hb hf hN hW hq hZ hH SS hbd LL LS
 go_upto_region 34 with (first | ((with_reducible refine gate_dst (N := 102) rfl ?_); refine ldbox (t := 42) rfl (.tmp 15) rfl (by rfl) dh B15.out hu42 rfl (by rw [Array.length_toList, ZH.out.1]; kernel_rfl) ?_) | ((with_reducible refine gate_dst (N := 103) rfl ?_); refine ldbox (t := 42) rfl (.tmp 6) rfl (by rfl) dw B6.out hu42 rfl (by rw [Array.length_toList, ZW.out.1]; kernel_rfl) ?_) | (go_at_call 11; refine (eqGt k dh dw g0 g1 g2 g3 g4 g5 _ IH.out (IWx.out.below HX.out) T4.out.1 T4.out.2).mono ?_; rintro e wq ⟨rfl, hb⟩; replace B1 := kpW B1 hb; replace BS := kpW BS hb; replace B6 := kpW B6 hb; replace HB := kpH HB hb; replace HX := kpH HX hb; replace OG1 := kpO OG1 hb; replace S1 := am (Nat.le_trans S1.out hb.size); replace B10 := kpW B10 hb; clear hb))
 go_wp2_with (first | ((with_reducible refine gate_dst (N := 111) rfl ?_); refine ldbox (t := 42) rfl (.tmp 10) rfl (by rfl) dg B10.out hu42 rfl (by rw [Array.length_toList, ZG.out.1]; kernel_rfl) ?_) | (go_at_call 15; refine (heldG k dg g0 o1 g2 o3 o4 o5 1 m2 _ OG1.out.read T10.out).mono ?_; rintro e wq ⟨rfl, hb⟩; replace B1 := kpW B1 hb; replace BS := kpW BS hb; replace B6 := kpW B6 hb; replace HB := kpH HB hb; replace HX := kpH HX hb; replace OG1 := kpO OG1 hb; replace S1 := am (Nat.le_trans S1.out hb.size); replace B10 := kpW B10 hb; clear hb))
 go_ret
 exact ⟨rfl, HB.out⟩
theorem laws_FnExactGateKeyIn.calls (k : Nat) (aH : Int) (aI : Option Addr) (aJ : Nat) (aB : List (S96)) (aK : Int) (aL : Option Addr) (aM : Nat) (aC : List (S124)) (aN : Option Addr) (aO : Nat) (aD : List (S33)) (aP : Option Addr) (aQ : Nat) (aE : List (S33)) (aR : Int) (aS : Int) (aT : ByteArray) (aU : ByteArray) (aV : Int) (aW : Int) (aX : Int) (aY : Int) (aZ : Int) (bA : Int) (aF : Option Addr) (aG : Nat) (aA : List Int) (r : Bool) (w : World) (bD : Kd.C k96 w aI aB.length aB) (bE : aB.length ≤ aJ) (bF : Kd.C k124 w aL aC.length aC) (bG : aC.length ≤ aM) (bH : Kd.C k33 w aN aD.length aD) (bI : aD.length ≤ aO) (bJ : Kd.C k33 w aP aE.length aE) (bK : aE.length ≤ aQ) (bB : Kd.C (Kd.int .i64) w aF aA.length aA) (bC : aA.length ≤ aG) (bL : r = true) (h : KIP k aH aB aK aC aD aE ⟨aR, aS, aT, aU, aV, aW, aX, aY, aZ, ⟨bA, aA⟩⟩) :
  Calls Tryz.prog 3 #[.agg #[.int .i64 aH, .slice aI aB.length aJ, .int .i64 aK, .slice aL aC.length aM, .slice aN aD.length aO, .slice aP aE.length aQ], .agg #[.int .i64 aR, .int .i64 aS, .string aT, .string aU, .int .i64 aV, .int .i64 aW, .int .i64 aX, .int .i64 aY, .int .i64 aZ, .int .i64 bA, .slice aF aA.length aG]] w fun e w' => e = .returned (.bool r) ∧ Below w.heap.size w w' := by
 subst bL
 exact lawKI k _ aH aB aK aC aD aE ⟨aR, aS, aT, aU, aV, aW, aX, aY, aZ, ⟨bA, aA⟩⟩ aF aG w ⟨_, _, _, _, rfl, ⟨aI, aJ, rfl, bE, bD⟩, ⟨aL, aM, rfl, bG, bF⟩, ⟨aN, aO, rfl, bI, bH⟩, ⟨aP, aQ, rfl, bK, bJ⟩⟩ bB bC h
def laws_FnExactGateKeyIn.Pure : Prop := ∀ (a0_0 : Int) (l0_1 : List (S96)) (a0_2 : Int) (l0_3 : List (S124)) (l0_4 : List (S33)) (l0_5 : List (S33)) (a1_0 : Int) (a1_1 : Int) (a1_2 : ByteArray) (a1_3 : ByteArray) (a1_4 : Int) (a1_5 : Int) (a1_6 : Int) (a1_7 : Int) (a1_8 : Int) (a1_9 : Int) (l1_10 : List Int), ((Lit.int .i64 a0_0).wf = true) → ((l0_1.length ≤ maxLen ∧ ∀ x_ ∈ l0_1, wfT96 x_)) → ((Lit.int .i64 a0_2).wf = true) → ((l0_3.length ≤ maxLen ∧ ∀ x_ ∈ l0_3, wfT124 x_)) → ((l0_4.length ≤ maxLen ∧ ∀ x_ ∈ l0_4, wfT33 x_)) → ((l0_5.length ≤ maxLen ∧ ∀ x_ ∈ l0_5, wfT33 x_)) → ((Lit.int .i64 a1_0).wf = true) → ((Lit.int .i64 a1_1).wf = true) → (a1_2.size ≤ maxLen) → (a1_3.size ≤ maxLen) → ((Lit.int .i64 a1_4).wf = true) → ((Lit.int .i64 a1_5).wf = true) → ((Lit.int .i64 a1_6).wf = true) → ((Lit.int .i64 a1_7).wf = true) → ((Lit.int .i64 a1_8).wf = true) → ((Lit.int .i64 a1_9).wf = true) → ((l1_10.length ≤ maxLen ∧ ∀ x_ ∈ l1_10, (Lit.int .i64 x_).wf = true)) → ∃ k, KIP k a0_0 l0_1 a0_2 l0_3 l0_4 l0_5 ⟨a1_0, a1_1, a1_2, a1_3, a1_4, a1_5, a1_6, a1_7, a1_8, ⟨a1_9, l1_10⟩⟩
theorem laws_FnExactGateKeyIn.walk (P : laws_FnExactGateKeyIn.Pure) (a0_0 : Int) (A0_1 : Option Addr) (c0_1 : Nat) (l0_1 : List (S96)) (a0_2 : Int) (A0_3 : Option Addr) (c0_3 : Nat) (l0_3 : List (S124)) (A0_4 : Option Addr) (c0_4 : Nat) (l0_4 : List (S33)) (A0_5 : Option Addr) (c0_5 : Nat) (l0_5 : List (S33)) (a1_0 : Int) (a1_1 : Int) (a1_2 : ByteArray) (a1_3 : ByteArray) (a1_4 : Int) (a1_5 : Int) (a1_6 : Int) (a1_7 : Int) (a1_8 : Int) (a1_9 : Int) (A1_10 : Option Addr) (c1_10 : Nat) (l1_10 : List Int) (w : World) (hr0_1 : Kd.C k96 w A0_1 l0_1.length l0_1) (hc0_1 : l0_1.length ≤ c0_1) (hr0_3 : Kd.C k124 w A0_3 l0_3.length l0_3) (hc0_3 : l0_3.length ≤ c0_3) (hr0_4 : Kd.C k33 w A0_4 l0_4.length l0_4) (hc0_4 : l0_4.length ≤ c0_4) (hr0_5 : Kd.C k33 w A0_5 l0_5.length l0_5) (hc0_5 : l0_5.length ≤ c0_5) (hr1_10 : Kd.C (Kd.int .i64) w A1_10 l1_10.length l1_10) (hc1_10 : l1_10.length ≤ c1_10) (q0_ : (Lit.int .i64 a0_0).wf = true) (q1_ : (l0_1.length ≤ maxLen ∧ ∀ x_ ∈ l0_1, wfT96 x_)) (q2_ : (Lit.int .i64 a0_2).wf = true) (q3_ : (l0_3.length ≤ maxLen ∧ ∀ x_ ∈ l0_3, wfT124 x_)) (q4_ : (l0_4.length ≤ maxLen ∧ ∀ x_ ∈ l0_4, wfT33 x_)) (q5_ : (l0_5.length ≤ maxLen ∧ ∀ x_ ∈ l0_5, wfT33 x_)) (q6_ : (Lit.int .i64 a1_0).wf = true) (q7_ : (Lit.int .i64 a1_1).wf = true) (q8_ : a1_2.size ≤ maxLen) (q9_ : a1_3.size ≤ maxLen) (q10_ : (Lit.int .i64 a1_4).wf = true) (q11_ : (Lit.int .i64 a1_5).wf = true) (q12_ : (Lit.int .i64 a1_6).wf = true) (q13_ : (Lit.int .i64 a1_7).wf = true) (q14_ : (Lit.int .i64 a1_8).wf = true) (q15_ : (Lit.int .i64 a1_9).wf = true) (q16_ : (l1_10.length ≤ maxLen ∧ ∀ x_ ∈ l1_10, (Lit.int .i64 x_).wf = true)) :
  Calls Tryz.prog 3 #[.agg #[.int .i64 a0_0, .slice A0_1 l0_1.length c0_1, .int .i64 a0_2, .slice A0_3 l0_3.length c0_3, .slice A0_4 l0_4.length c0_4, .slice A0_5 l0_5.length c0_5], .agg #[.int .i64 a1_0, .int .i64 a1_1, .string a1_2, .string a1_3, .int .i64 a1_4, .int .i64 a1_5, .int .i64 a1_6, .int .i64 a1_7, .int .i64 a1_8, .int .i64 a1_9, .slice A1_10 l1_10.length c1_10]] w fun e w' => e = .returned (.bool true) ∧ Below w.heap.size w w' := by
 obtain ⟨k, h⟩ := P a0_0 l0_1 a0_2 l0_3 l0_4 l0_5 a1_0 a1_1 a1_2 a1_3 a1_4 a1_5 a1_6 a1_7 a1_8 a1_9 l1_10 q0_ q1_ q2_ q3_ q4_ q5_ q6_ q7_ q8_ q9_ q10_ q11_ q12_ q13_ q14_ q15_ q16_
 refine (laws_FnExactGateKeyIn.calls k a0_0 A0_1 c0_1 l0_1 a0_2 A0_3 c0_3 l0_3 A0_4 c0_4 l0_4 A0_5 c0_5 l0_5 a1_0 a1_1 a1_2 a1_3 a1_4 a1_5 a1_6 a1_7 a1_8 a1_9 A1_10 c1_10 l1_10 true w hr0_1 hc0_1 hr0_3 hc0_3 hr0_4 hc0_4 hr0_5 hc0_5 hr1_10 hc1_10 rfl h).mono ?_
 rintro e w' ⟨rfl, hd⟩
 exact ⟨rfl, hd⟩
end Go.Proofs.YtgoblfacfjnanaaGreat.PAll
end
