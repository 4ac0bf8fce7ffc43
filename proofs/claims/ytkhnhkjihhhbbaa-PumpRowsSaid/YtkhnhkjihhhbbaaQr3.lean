/- In a row of suspects, each beginning of which can be tested at the cost 1, the worst case of a hunt is the least k of which 2^k is at least their number: thermionlaw06.PumpRows returns true for every input, under no condition. -/
import Derived.Test.YtkhnhkjihhhbbaaQr1
import Derived.Test.YtkhnhkjihhhbbaaQr2
import Derived.Laws.BitsLemmas
namespace Go.Proofs.Ytkhnhkjihhhbbaa.P
open Go.RowKit Go.Proofs.YtkhnhkjihhhbbaaW.PrintWords Go.Proofs.YtkhnhkjihhhbbaaW.PrintLast Go.Proofs.YtkhnhkjihhhbbaaW.PrintMore
attribute [local go_sem] max2_int min2_int max_two min_two
set_option linter.unusedVariables false
set_option linter.unusedSimpArgs false
def pump_runs.l0 : Nat → Int → List (S45) → Int → Int → List (S36) → List (S138) → List (S112) → List (S140) → List (S142) → Option (Int)
  | 0, _, _, _, _, _, _, _, _, _ => none
  | k + 1, x6, x18, x19, x20, x129000, x129001, x129002, x129003, x129004 => if x20 < x19 then (if 0 ≤ x20 then (if x20 < (x18.length : Int) then ((pump_stage.f k x129000 x129001 x129002 x129003 x129004 ((rd_T45 x18 x20).f0) ((rd_T45 x18 x20).f1) ((rd_T45 x18 x20).f2) ((rd_T45 x18 x20).f3)).bind fun t132 => (if t132 = 0 then (pump_runs.l0 k (wrap64 (x6 + ((rd_T45 x18 x20).f0))) x18 x19 (wrap64 (x20 + 1)) x129000 x129001 x129002 x129003 x129004) else (some t132))) else (none)) else (none)) else (if x6 > 2000 then (some 14) else (some 0))
def pump_runs.f (k : Nat) (l0_0 : List (S36)) (l0_1 : List (S138)) (l0_2 : List (S112)) (l0_3 : List (S140)) (l0_4 : List (S142)) (l1 : List (S45)) : Option (Int) := (pump_Check.f l0_0 l0_1 l0_2 l0_3 l0_4).bind fun t129 => (if t129 = 0 then (if (l1.length : Int) > 20 then (some 8) else (pump_runs.l0 k 0 l1 (l1.length : Int) 0 l0_0 l0_1 l0_2 l0_3 l0_4)) else (some t129))
set_option maxHeartbeats 8000000 in
set_option maxRecDepth 100000 in
theorem pump_runs.calls (k : Nat) (A0_0 : Option Addr) (c0_0 : Nat) (l0_0 : List (S36)) (A0_1 : Option Addr) (c0_1 : Nat) (l0_1 : List (S138)) (A0_2 : Option Addr) (c0_2 : Nat) (l0_2 : List (S112)) (A0_3 : Option Addr) (c0_3 : Nat) (l0_3 : List (S140)) (A0_4 : Option Addr) (c0_4 : Nat) (l0_4 : List (S142)) (A1 : Option Addr) (c1 : Nat) (l1 : List (S45)) (r : Int) (w : World) (hr0_0 : Kd.C k36 w A0_0 l0_0.length l0_0) (hc0_0 : l0_0.length ≤ c0_0) (hr0_1 : Kd.C k138 w A0_1 l0_1.length l0_1) (hc0_1 : l0_1.length ≤ c0_1) (hr0_2 : Kd.C k112 w A0_2 l0_2.length l0_2) (hc0_2 : l0_2.length ≤ c0_2) (hr0_3 : Kd.C k140 w A0_3 l0_3.length l0_3) (hc0_3 : l0_3.length ≤ c0_3) (hr0_4 : Kd.C k142 w A0_4 l0_4.length l0_4) (hc0_4 : l0_4.length ≤ c0_4) (hr1 : Kd.C k45 w A1 l1.length l1) (hc1 : l1.length ≤ c1) (h : pump_runs.f k l0_0 l0_1 l0_2 l0_3 l0_4 l1 = some r) :
    Calls Try.prog 73 #[.agg #[.slice A0_0 l0_0.length c0_0, .slice A0_1 l0_1.length c0_1, .slice A0_2 l0_2.length c0_2, .slice A0_3 l0_3.length c0_3, .slice A0_4 l0_4.length c0_4], .slice A1 l1.length c1] w fun e w' => e = .returned (.int .i64 r) ∧ Below w.heap.size w w' := by
  have hu29 := Try.underlying29
  have hu45 := Try.underlying45
  have HR0_0 := Aside0.mk hr0_0
  have HC0_0 := Aside0.mk hc0_0
  clear hr0_0 hc0_0
  have HR0_1 := Aside0.mk hr0_1
  have HC0_1 := Aside0.mk hc0_1
  clear hr0_1 hc0_1
  have HR0_2 := Aside0.mk hr0_2
  have HC0_2 := Aside0.mk hc0_2
  clear hr0_2 hc0_2
  have HR0_3 := Aside0.mk hr0_3
  have HC0_3 := Aside0.mk hc0_3
  clear hr0_3 hc0_3
  have HR0_4 := Aside0.mk hr0_4
  have HC0_4 := Aside0.mk hc0_4
  clear hr0_4 hc0_4
  have HR1 := Aside0.mk hr1
  have HC1 := Aside0.mk hc1
  clear hr1 hc1
  have HB := Aside0.mk (Below.refl w.heap.size w)
  have H : ((pump_Check.f l0_0 l0_1 l0_2 l0_3 l0_4).bind fun t129 => (if t129 = 0 then (if (l1.length : Int) > 20 then (some 8) else (pump_runs.l0 k 0 l1 (l1.length : Int) 0 l0_0 l0_1 l0_2 l0_3 l0_4)) else (some t129))) = some r := h
  clear h
  replace H := Option.bind_eq_some_iff.mp H
  obtain ⟨t129, A30, H⟩ := H
  replace H : (if t129 = 0 then (if (l1.length : Int) > 20 then (some 8) else (pump_runs.l0 k 0 l1 (l1.length : Int) 0 l0_0 l0_1 l0_2 l0_3 l0_4)) else (some t129)) = some r := H
  have A3 := Aside0.mk A30
  clear A30
  by_cases c4 : t129 = 0
  · rw [if_pos c4] at H
    have c4b0 : (t129 == 0) = true := beq_iff_eq.mpr c4
    have c4b1 : (t129 != 0) = false := bne_eq_false_iff_eq.mpr c4
    clear c4
    by_cases c5 : (l1.length : Int) > 20
    · rw [if_pos c5] at H
      have c5b0 : decide (20 < (l1.length : Int)) = true := decide_eq_true c5
      have c5b1 : decide (20 < l1.length) = true := decide_eq_true (by omega)
      clear c5
      obtain rfl := Option.some.inj H
      go_enter Try.func73, Try.ntmps73
      go_wp2_with (first | ((with_reducible refine gate_dst (N := 2) rfl ?_); refine box_event ?hg (N := 2) ?hd (cs := #[.slice A0_0 l0_0.length c0_0, .slice A0_1 l0_1.length c0_1, .slice A0_2 l0_2.length c0_2, .slice A0_3 l0_3.length c0_3, .slice A0_4 l0_4.length c0_4]) (t := 29) ?hr ?_; (case hd => rfl); (case hg => rfl); (case hr => first | (go_simp; done) | (go_simp; rfl)); intro gb128 hg w6 hbox hb; have n0_ := Aside0.mk (below_step (by repeat (first | (with_reducible first | exact HB.out | apply below_alloc | apply pw_below_drewN | apply below_drew1) | exact HB.out)) hb); have n1_ := Aside0.mk (hbox); have n2_ := Aside0.mk ((by rw [hg]; exact (below_size (by repeat (first | (with_reducible first | exact HB.out | apply below_alloc | apply pw_below_drewN | apply below_drew1) | exact HB.out))) : w.heap.size ≤ gb128)); have n3_ := Aside0.mk ((by rw [hg]; exact (below_size (by repeat (first | (with_reducible first | exact HB.out | apply below_alloc | apply pw_below_drewN | apply below_drew1) | exact HB.out))) : w.heap.size ≤ gb128)); clear HB; have HB := n0_; have BK128 := n1_; have GW128 := n2_; have GE128 := n3_; clear n0_ n1_ n2_ n3_; clear hb hbox hg; have hcz7_0 : w6.cell? ⟨gb128, 0, none⟩ = some (.slice A0_0 l0_0.length c0_0) := (blk_cell BK128.out 0).trans rfl; have hcz7_1 : w6.cell? ⟨gb128, 1, none⟩ = some (.slice A0_1 l0_1.length c0_1) := (blk_cell BK128.out 1).trans rfl; have hcz7_2 : w6.cell? ⟨gb128, 2, none⟩ = some (.slice A0_2 l0_2.length c0_2) := (blk_cell BK128.out 2).trans rfl; have hcz7_3 : w6.cell? ⟨gb128, 3, none⟩ = some (.slice A0_3 l0_3.length c0_3) := (blk_cell BK128.out 3).trans rfl; have hcz7_4 : w6.cell? ⟨gb128, 4, none⟩ = some (.slice A0_4 l0_4.length c0_4) := (blk_cell BK128.out 4).trans rfl; have hfz7_0 := blk_frozen BK128.out 0; have hfz7_1 := blk_frozen BK128.out 1; have hfz7_2 := blk_frozen BK128.out 2; have hfz7_3 := blk_frozen BK128.out 3; have hfz7_4 := blk_frozen BK128.out 4) | ((with_reducible refine gate_callee (f := 37) rfl ?_); refine goesL_ (some 11) rfl rfl Try.func37 (by kernel_rfl) rfl #[.agg #[.slice A0_0 l0_0.length c0_0, .slice A0_1 l0_1.length c0_1, .slice A0_2 l0_2.length c0_2, .slice A0_3 l0_3.length c0_3, .slice A0_4 l0_4.length c0_4]] rfl (by (try simp only [List.map_toArray, List.map_cons, List.map_nil]); first | done | rfl | (simp only [List.length_drop, List.length_take]; rfl)) ?_; (with_reducible refine (pump_Check.calls _ _ l0_0 _ _ l0_1 _ _ l0_2 _ _ l0_3 _ _ l0_4 t129 _ ?side1 ?side2 ?side3 ?side4 ?side5 ?side6 ?side7 ?side8 ?side9 ?side10 A3.out).mono ?_); (case side1 => repeat (first | exact (Kd.C_below HR0_0.out HB.out) | (with_reducible refine Kd.C_alloc ?_ _) | (with_reducible refine Kd.C_drewN ?_ _) | (with_reducible refine Kd.C_drew ?_))); (case side2 => exact HC0_0.out); (case side3 => repeat (first | exact (Kd.C_below HR0_1.out HB.out) | (with_reducible refine Kd.C_alloc ?_ _) | (with_reducible refine Kd.C_drewN ?_ _) | (with_reducible refine Kd.C_drew ?_))); (case side4 => exact HC0_1.out); (case side5 => repeat (first | exact (Kd.C_below HR0_2.out HB.out) | (with_reducible refine Kd.C_alloc ?_ _) | (with_reducible refine Kd.C_drewN ?_ _) | (with_reducible refine Kd.C_drew ?_))); (case side6 => exact HC0_2.out); (case side7 => repeat (first | exact (Kd.C_below HR0_3.out HB.out) | (with_reducible refine Kd.C_alloc ?_ _) | (with_reducible refine Kd.C_drewN ?_ _) | (with_reducible refine Kd.C_drew ?_))); (case side8 => exact HC0_3.out); (case side9 => repeat (first | exact (Kd.C_below HR0_4.out HB.out) | (with_reducible refine Kd.C_alloc ?_ _) | (with_reducible refine Kd.C_drewN ?_ _) | (with_reducible refine Kd.C_drew ?_))); (case side10 => exact HC0_4.out); rintro e w8 ⟨rfl, hb⟩; refine ⟨_, rfl, ?_⟩; have n0_ := Aside0.mk (blk_below (g := gb128) (o := .cells #[.slice A0_0 l0_0.length c0_0, .slice A0_1 l0_1.length c0_1, .slice A0_2 l0_2.length c0_2, .slice A0_3 l0_3.length c0_3, .slice A0_4 l0_4.length c0_4] 29 (0, 0)) (by (with_reducible repeat (first | refine blk_drewN ?_ _ | refine blk_drew ?_ | refine blk_alloc ?_ _)); exact BK128.out) hb); have n1_ := Aside0.mk (below_step (by repeat (first | (with_reducible first | exact HB.out | apply below_alloc | apply pw_below_drewN | apply below_drew1 | refine below_set ?_ GE128.out) | exact HB.out)) hb); clear BK128; clear HB; have BK128 := n0_; have HB := n1_; clear n0_ n1_; (try clear hb); (try clear hb2); (try clear hk); (try clear hi)))
      go_ret
      exact ⟨by first | rfl | (simp [errW_none, errW_some] <;> rfl) | (simp [*, errW_none, errW_some] <;> rfl), by repeat (first | (with_reducible first | exact HB.out | apply below_alloc | apply pw_below_drewN | apply below_drew1 | refine below_set ?_ GE128.out) | exact HB.out)⟩
    · rw [if_neg c5] at H
      have c5b0 : decide (20 < (l1.length : Int)) = false := decide_eq_false c5
      have c5b1 : decide (20 < l1.length) = false := decide_eq_false (by omega)
      clear c5
      have H' := Aside0.mk H
      clear H
      go_enter Try.func73, Try.ntmps73
      go_wp2_with (first | ((with_reducible refine gate_dst (N := 2) rfl ?_); refine box_event ?hg (N := 2) ?hd (cs := #[.slice A0_0 l0_0.length c0_0, .slice A0_1 l0_1.length c0_1, .slice A0_2 l0_2.length c0_2, .slice A0_3 l0_3.length c0_3, .slice A0_4 l0_4.length c0_4]) (t := 29) ?hr ?_; (case hd => rfl); (case hg => rfl); (case hr => first | (go_simp; done) | (go_simp; rfl)); intro gb128 hg w9 hbox hb; have n0_ := Aside0.mk (below_step (by repeat (first | (with_reducible first | exact HB.out | apply below_alloc | apply pw_below_drewN | apply below_drew1) | exact HB.out)) hb); have n1_ := Aside0.mk (hbox); have n2_ := Aside0.mk ((by rw [hg]; exact (below_size (by repeat (first | (with_reducible first | exact HB.out | apply below_alloc | apply pw_below_drewN | apply below_drew1) | exact HB.out))) : w.heap.size ≤ gb128)); have n3_ := Aside0.mk ((by rw [hg]; exact (below_size (by repeat (first | (with_reducible first | exact HB.out | apply below_alloc | apply pw_below_drewN | apply below_drew1) | exact HB.out))) : w.heap.size ≤ gb128)); clear HB; have HB := n0_; have BK128 := n1_; have GW128 := n2_; have GE128 := n3_; clear n0_ n1_ n2_ n3_; clear hb hbox hg; have hcz10_0 : w9.cell? ⟨gb128, 0, none⟩ = some (.slice A0_0 l0_0.length c0_0) := (blk_cell BK128.out 0).trans rfl; have hcz10_1 : w9.cell? ⟨gb128, 1, none⟩ = some (.slice A0_1 l0_1.length c0_1) := (blk_cell BK128.out 1).trans rfl; have hcz10_2 : w9.cell? ⟨gb128, 2, none⟩ = some (.slice A0_2 l0_2.length c0_2) := (blk_cell BK128.out 2).trans rfl; have hcz10_3 : w9.cell? ⟨gb128, 3, none⟩ = some (.slice A0_3 l0_3.length c0_3) := (blk_cell BK128.out 3).trans rfl; have hcz10_4 : w9.cell? ⟨gb128, 4, none⟩ = some (.slice A0_4 l0_4.length c0_4) := (blk_cell BK128.out 4).trans rfl; have hfz10_0 := blk_frozen BK128.out 0; have hfz10_1 := blk_frozen BK128.out 1; have hfz10_2 := blk_frozen BK128.out 2; have hfz10_3 := blk_frozen BK128.out 3; have hfz10_4 := blk_frozen BK128.out 4) | ((with_reducible refine gate_callee (f := 37) rfl ?_); refine goesL_ (some 11) rfl rfl Try.func37 (by kernel_rfl) rfl #[.agg #[.slice A0_0 l0_0.length c0_0, .slice A0_1 l0_1.length c0_1, .slice A0_2 l0_2.length c0_2, .slice A0_3 l0_3.length c0_3, .slice A0_4 l0_4.length c0_4]] rfl (by (try simp only [List.map_toArray, List.map_cons, List.map_nil]); first | done | rfl | (simp only [List.length_drop, List.length_take]; rfl)) ?_; (with_reducible refine (pump_Check.calls _ _ l0_0 _ _ l0_1 _ _ l0_2 _ _ l0_3 _ _ l0_4 t129 _ ?side1 ?side2 ?side3 ?side4 ?side5 ?side6 ?side7 ?side8 ?side9 ?side10 A3.out).mono ?_); (case side1 => repeat (first | exact (Kd.C_below HR0_0.out HB.out) | (with_reducible refine Kd.C_alloc ?_ _) | (with_reducible refine Kd.C_drewN ?_ _) | (with_reducible refine Kd.C_drew ?_))); (case side2 => exact HC0_0.out); (case side3 => repeat (first | exact (Kd.C_below HR0_1.out HB.out) | (with_reducible refine Kd.C_alloc ?_ _) | (with_reducible refine Kd.C_drewN ?_ _) | (with_reducible refine Kd.C_drew ?_))); (case side4 => exact HC0_1.out); (case side5 => repeat (first | exact (Kd.C_below HR0_2.out HB.out) | (with_reducible refine Kd.C_alloc ?_ _) | (with_reducible refine Kd.C_drewN ?_ _) | (with_reducible refine Kd.C_drew ?_))); (case side6 => exact HC0_2.out); (case side7 => repeat (first | exact (Kd.C_below HR0_3.out HB.out) | (with_reducible refine Kd.C_alloc ?_ _) | (with_reducible refine Kd.C_drewN ?_ _) | (with_reducible refine Kd.C_drew ?_))); (case side8 => exact HC0_3.out); (case side9 => repeat (first | exact (Kd.C_below HR0_4.out HB.out) | (with_reducible refine Kd.C_alloc ?_ _) | (with_reducible refine Kd.C_drewN ?_ _) | (with_reducible refine Kd.C_drew ?_))); (case side10 => exact HC0_4.out); rintro e w11 ⟨rfl, hb⟩; refine ⟨_, rfl, ?_⟩; have n0_ := Aside0.mk (blk_below (g := gb128) (o := .cells #[.slice A0_0 l0_0.length c0_0, .slice A0_1 l0_1.length c0_1, .slice A0_2 l0_2.length c0_2, .slice A0_3 l0_3.length c0_3, .slice A0_4 l0_4.length c0_4] 29 (0, 0)) (by (with_reducible repeat (first | refine blk_drewN ?_ _ | refine blk_drew ?_ | refine blk_alloc ?_ _)); exact BK128.out) hb); have n1_ := Aside0.mk (below_step (by repeat (first | (with_reducible first | exact HB.out | apply below_alloc | apply pw_below_drewN | apply below_drew1 | refine below_set ?_ GE128.out) | exact HB.out)) hb); clear BK128; clear HB; have BK128 := n0_; have HB := n1_; clear n0_ n1_; (try clear hb); (try clear hb2); (try clear hk); (try clear hi)))
      go_loopg [6, 20] k (fun kq v6 v20 w' => ∃ (x6_1 : Int) (x20_1 : Int), v6 = .int .i64 x6_1 ∧ v20 = .int .i64 x20_1 ∧ Aside0 (pump_runs.l0 kq x6_1 l1 (l1.length : Int) x20_1 l0_0 l0_1 l0_2 l0_3 l0_4 = some r) ∧ Aside0 (kq ≤ k) ∧ Aside0 (w'.heap[gb128]? = some (.cells #[(.slice A0_0 l0_0.length c0_0), (.slice A0_1 l0_1.length c0_1), (.slice A0_2 l0_2.length c0_2), (.slice A0_3 l0_3.length c0_3), (.slice A0_4 l0_4.length c0_4)] 29 (0, 0))) ∧ Aside0 (Below w.heap.size w w'))
      case atStart => exact ⟨(0), (0), (by first | rfl | (simp; done) | (simp [*]; done)), (by first | rfl | (simp; done) | (simp [*]; done)), H', ⟨Nat.le_refl _⟩, ⟨by (with_reducible repeat (first | refine blk_drewN ?_ _ | refine blk_drew ?_ | refine blk_alloc ?_ _)); exact BK128.out⟩, ⟨by repeat (first | (with_reducible first | exact HB.out | apply below_alloc | apply pw_below_drewN | apply below_drew1 | refine below_set ?_ GE128.out) | exact HB.out)⟩⟩
      case round =>
        clear H'
        try clear c1
        try clear p2
        try clear c3
        try clear c4
        try clear c4b0
        try clear c4b1
        try clear c5
        try clear c5b0
        try clear c5b1
        try clear c7
        try clear hcz10_0
        try clear hcz10_1
        try clear hcz10_2
        try clear hcz10_3
        try clear hcz10_4
        try clear hcz7_0
        try clear hcz7_1
        try clear hcz7_2
        try clear hcz7_3
        try clear hcz7_4
        try clear hfz10_0
        try clear hfz10_1
        try clear hfz10_2
        try clear hfz10_3
        try clear hfz10_4
        try clear hfz7_0
        try clear hfz7_1
        try clear hfz7_2
        try clear hfz7_3
        try clear hfz7_4
        obtain ⟨x6_1, x20_1, rfl, rfl, HA, HK1, BK128, HB⟩ := hrel
        cases gk with
        | zero => exact absurd HA.out (by simp [pump_runs.l0])
        | succ k1 =>
          have H := HA.out
          clear HA
          simp only [pump_runs.l0] at H
          by_cases c12 : x20_1 < (l1.length : Int)
          · rw [if_pos c12] at H
            have c12b0 : decide (x20_1 < (l1.length : Int)) = true := decide_eq_true c12
            clear c12
            by_cases c13 : 0 ≤ x20_1
            · rw [if_pos c13] at H
              have c13b0 : decide (0 ≤ x20_1) = true := decide_eq_true c13
              clear c13
              by_cases c14 : x20_1 < (l1.length : Int)
              · rw [if_pos c14] at H
                have c14b0 : decide (x20_1 < (l1.length : Int)) = true := decide_eq_true c14
                clear c14
                replace H := Option.bind_eq_some_iff.mp H
                obtain ⟨t132, A150, H⟩ := H
                replace H : (if t132 = 0 then (pump_runs.l0 k1 (wrap64 (x6_1 + ((rd_T45 l1 x20_1).f0))) l1 (l1.length : Int) (wrap64 (x20_1 + 1)) l0_0 l0_1 l0_2 l0_3 l0_4) else (some t132)) = some r := H
                have A15 := Aside0.mk A150
                clear A150
                by_cases c16 : t132 = 0
                · rw [if_pos c16] at H
                  have c16b0 : (t132 == 0) = true := beq_iff_eq.mpr c16
                  have c16b1 : (t132 != 0) = false := bne_eq_false_iff_eq.mpr c16
                  clear c16
                  have H' := Aside0.mk H
                  clear H
                  have p130 : 0 ≤ (x20_1 : Int) := of_decide_eq_true (by first | (with_reducible assumption) | assumption)
                  have q130 : x20_1 < (l1.length : Int) := of_decide_eq_true (by first | (with_reducible assumption) | assumption)
                  obtain ⟨ad130, A130_2, c130_2, e130, hx130_0, hx130_1, hx130_2, hx130_3, hl130_2, hi130_2⟩ := at_T45 HR1.out x20_1 p130 q130
                  cases e130
                  replace hx130_0 := (HB.out.cell (World.block_lt_of_cell? w _ hx130_0)).trans hx130_0
                  replace hx130_1 := (HB.out.cell (World.block_lt_of_cell? w _ hx130_1)).trans hx130_1
                  replace hx130_2 := (HB.out.cell (World.block_lt_of_cell? w _ hx130_2)).trans hx130_2
                  replace hx130_3 := (HB.out.cell (World.block_lt_of_cell? w _ hx130_3)).trans hx130_3
                  have HR130_2 := Aside0.mk hi130_2
                  have HC130_2 := Aside0.mk hl130_2
                  clear hi130_2 hl130_2
                  replace p130 := eq_true p130
                  replace q130 := eq_true q130
                  go_wp2_with (first | ((with_reducible refine gate_dst (N := 8) rfl ?_); refine box_event ?hg (N := 8) ?hd (cs := #[.int .i64 0, .int .i64 0, .slice none 0 0, .bool false]) (t := 45) ?hr ?_; (case hd => rfl); (case hg => rfl); (case hr => first | (go_simp; done) | (go_simp; rfl)); intro gb131 hg w17 hbox hb; have n0_ := Aside0.mk (blk_below (g := gb128) (o := .cells #[.slice A0_0 l0_0.length c0_0, .slice A0_1 l0_1.length c0_1, .slice A0_2 l0_2.length c0_2, .slice A0_3 l0_3.length c0_3, .slice A0_4 l0_4.length c0_4] 29 (0, 0)) (by (with_reducible repeat (first | refine blk_drewN ?_ _ | refine blk_drew ?_ | refine blk_alloc ?_ _)); exact BK128.out) hb); have n1_ := Aside0.mk (below_step (by repeat (first | (with_reducible first | exact HB.out | apply below_alloc | apply pw_below_drewN | apply below_drew1 | refine below_set ?_ GE128.out) | exact HB.out)) hb); have n2_ := Aside0.mk (hbox); have n3_ := Aside0.mk ((by rw [hg]; exact (below_size (by repeat (first | (with_reducible first | exact HB.out | apply below_alloc | apply pw_below_drewN | apply below_drew1 | refine below_set ?_ GE128.out) | exact HB.out))) : w.heap.size ≤ gb131)); have n4_ := Aside0.mk ((by rw [hg]; exact (below_size (by repeat (first | (with_reducible first | exact HB.out | apply below_alloc | apply pw_below_drewN | apply below_drew1 | refine below_set ?_ GE128.out) | exact HB.out))) : w.heap.size ≤ gb131)); have n5_ := Aside0.mk ((by rw [hg]; exact Nat.ne_of_lt (blk_lt (g := gb128) (o := .cells #[.slice A0_0 l0_0.length c0_0, .slice A0_1 l0_1.length c0_1, .slice A0_2 l0_2.length c0_2, .slice A0_3 l0_3.length c0_3, .slice A0_4 l0_4.length c0_4] 29 (0, 0)) (by (with_reducible repeat (first | refine blk_drewN ?_ _ | refine blk_drew ?_ | refine blk_alloc ?_ _)); exact BK128.out)) : gb128 ≠ gb131)); have n6_ := Aside0.mk ((by rw [hg]; exact Nat.ne_of_gt (blk_lt (g := gb128) (o := .cells #[.slice A0_0 l0_0.length c0_0, .slice A0_1 l0_1.length c0_1, .slice A0_2 l0_2.length c0_2, .slice A0_3 l0_3.length c0_3, .slice A0_4 l0_4.length c0_4] 29 (0, 0)) (by (with_reducible repeat (first | refine blk_drewN ?_ _ | refine blk_drew ?_ | refine blk_alloc ?_ _)); exact BK128.out)) : gb131 ≠ gb128)); clear BK128; clear HB; have BK128 := n0_; have HB := n1_; have BK131 := n2_; have GW131 := n3_; have GE131 := n4_; have NB128_131 := n5_; have NB131_128 := n6_; clear n0_ n1_ n2_ n3_ n4_ n5_ n6_; clear hb hbox hg; have hnb18 := NB131_128.out; have hnc18 := NB128_131.out; have hcz19_0 : w17.cell? ⟨gb131, 0, none⟩ = some (.int .i64 0) := (blk_cell BK131.out 0).trans rfl; have hcz19_1 : w17.cell? ⟨gb131, 1, none⟩ = some (.int .i64 0) := (blk_cell BK131.out 1).trans rfl; have hcz19_2 : w17.cell? ⟨gb131, 2, none⟩ = some (.slice none 0 0) := (blk_cell BK131.out 2).trans rfl; have hcz19_3 : w17.cell? ⟨gb131, 3, none⟩ = some (.bool false) := (blk_cell BK131.out 3).trans rfl; have hfz19_0 := blk_frozen BK131.out 0; have hfz19_1 := blk_frozen BK131.out 1; have hfz19_2 := blk_frozen BK131.out 2; have hfz19_3 := blk_frozen BK131.out 3; have hcz20_0 : w17.cell? ⟨gb128, 0, none⟩ = some (.slice A0_0 l0_0.length c0_0) := (blk_cell BK128.out 0).trans rfl; have hcz20_1 : w17.cell? ⟨gb128, 1, none⟩ = some (.slice A0_1 l0_1.length c0_1) := (blk_cell BK128.out 1).trans rfl; have hcz20_2 : w17.cell? ⟨gb128, 2, none⟩ = some (.slice A0_2 l0_2.length c0_2) := (blk_cell BK128.out 2).trans rfl; have hcz20_3 : w17.cell? ⟨gb128, 3, none⟩ = some (.slice A0_3 l0_3.length c0_3) := (blk_cell BK128.out 3).trans rfl; have hcz20_4 : w17.cell? ⟨gb128, 4, none⟩ = some (.slice A0_4 l0_4.length c0_4) := (blk_cell BK128.out 4).trans rfl; have hfz20_0 := blk_frozen BK128.out 0; have hfz20_1 := blk_frozen BK128.out 1; have hfz20_2 := blk_frozen BK128.out 2; have hfz20_3 := blk_frozen BK128.out 3; have hfz20_4 := blk_frozen BK128.out 4) | ((with_reducible refine gate_callee (f := 103) rfl ?_); refine goesL_ (some 26) rfl rfl Try.func103 (by kernel_rfl) rfl #[.agg #[.slice A0_0 l0_0.length c0_0, .slice A0_1 l0_1.length c0_1, .slice A0_2 l0_2.length c0_2, .slice A0_3 l0_3.length c0_3, .slice A0_4 l0_4.length c0_4], .agg #[.int .i64 ((rd_T45 l1 x20_1).f0), .int .i64 ((rd_T45 l1 x20_1).f1), .slice A130_2 ((rd_T45 l1 x20_1).f2).length c130_2, .bool ((rd_T45 l1 x20_1).f3)]] rfl (by (try simp only [List.map_toArray, List.map_cons, List.map_nil]); first | done | rfl | (simp only [List.length_drop, List.length_take]; rfl)) ?_; (with_reducible refine (pump_stage.calls k1 _ _ l0_0 _ _ l0_1 _ _ l0_2 _ _ l0_3 _ _ l0_4 ((rd_T45 l1 x20_1).f0) ((rd_T45 l1 x20_1).f1) _ _ ((rd_T45 l1 x20_1).f2) ((rd_T45 l1 x20_1).f3) t132 _ ?side1 ?side2 ?side3 ?side4 ?side5 ?side6 ?side7 ?side8 ?side9 ?side10 ?side11 ?side12 A15.out).mono ?_); (case side1 => exact Kd.C_below HR0_0.out (by repeat (first | (with_reducible first | exact HB.out | apply below_alloc | apply pw_below_drewN | apply below_drew1 | refine below_set ?_ GE128.out | refine below_set ?_ GE131.out) | exact HB.out))); (case side2 => exact HC0_0.out); (case side3 => exact Kd.C_below HR0_1.out (by repeat (first | (with_reducible first | exact HB.out | apply below_alloc | apply pw_below_drewN | apply below_drew1 | refine below_set ?_ GE128.out | refine below_set ?_ GE131.out) | exact HB.out))); (case side4 => exact HC0_1.out); (case side5 => exact Kd.C_below HR0_2.out (by repeat (first | (with_reducible first | exact HB.out | apply below_alloc | apply pw_below_drewN | apply below_drew1 | refine below_set ?_ GE128.out | refine below_set ?_ GE131.out) | exact HB.out))); (case side6 => exact HC0_2.out); (case side7 => exact Kd.C_below HR0_3.out (by repeat (first | (with_reducible first | exact HB.out | apply below_alloc | apply pw_below_drewN | apply below_drew1 | refine below_set ?_ GE128.out | refine below_set ?_ GE131.out) | exact HB.out))); (case side8 => exact HC0_3.out); (case side9 => exact Kd.C_below HR0_4.out (by repeat (first | (with_reducible first | exact HB.out | apply below_alloc | apply pw_below_drewN | apply below_drew1 | refine below_set ?_ GE128.out | refine below_set ?_ GE131.out) | exact HB.out))); (case side10 => exact HC0_4.out); (case side11 => exact Kd.C_below HR130_2.out (by repeat (first | (with_reducible first | exact HB.out | apply below_alloc | apply pw_below_drewN | apply below_drew1 | refine below_set ?_ GE128.out | refine below_set ?_ GE131.out) | exact HB.out))); (case side12 => exact HC130_2.out); rintro e w21 ⟨rfl, hb⟩; refine ⟨_, rfl, ?_⟩; have n0_ := Aside0.mk (blk_below (g := gb128) (o := .cells #[.slice A0_0 l0_0.length c0_0, .slice A0_1 l0_1.length c0_1, .slice A0_2 l0_2.length c0_2, .slice A0_3 l0_3.length c0_3, .slice A0_4 l0_4.length c0_4] 29 (0, 0)) (by (with_reducible repeat (first | refine blk_drewN ?_ _ | refine blk_drew ?_ | refine blk_alloc ?_ _)); refine blk_far ?_ NB128_131.out _; (with_reducible repeat (first | refine blk_drewN ?_ _ | refine blk_drew ?_ | refine blk_alloc ?_ _)); refine blk_far ?_ NB128_131.out _; (with_reducible repeat (first | refine blk_drewN ?_ _ | refine blk_drew ?_ | refine blk_alloc ?_ _)); refine blk_far ?_ NB128_131.out _; (with_reducible repeat (first | refine blk_drewN ?_ _ | refine blk_drew ?_ | refine blk_alloc ?_ _)); refine blk_far ?_ NB128_131.out _; (with_reducible repeat (first | refine blk_drewN ?_ _ | refine blk_drew ?_ | refine blk_alloc ?_ _)); exact BK128.out) hb); have n1_ := Aside0.mk (blk_below (g := gb131) (o := .cells #[.int .i64 ((rd_T45 l1 x20_1).f0), .int .i64 ((rd_T45 l1 x20_1).f1), .slice A130_2 ((rd_T45 l1 x20_1).f2).length c130_2, .bool ((rd_T45 l1 x20_1).f3)] 45 (0, 0)) (by (with_reducible repeat (first | refine blk_drewN ?_ _ | refine blk_drew ?_ | refine blk_alloc ?_ _)); refine blk_put (cs := #[.int .i64 ((rd_T45 l1 x20_1).f0), .int .i64 ((rd_T45 l1 x20_1).f1), .slice A130_2 ((rd_T45 l1 x20_1).f2).length c130_2, .bool false]) ?_ 3 _ rfl; (with_reducible repeat (first | refine blk_drewN ?_ _ | refine blk_drew ?_ | refine blk_alloc ?_ _)); refine blk_put (cs := #[.int .i64 ((rd_T45 l1 x20_1).f0), .int .i64 ((rd_T45 l1 x20_1).f1), .slice none 0 0, .bool false]) ?_ 2 _ rfl; (with_reducible repeat (first | refine blk_drewN ?_ _ | refine blk_drew ?_ | refine blk_alloc ?_ _)); refine blk_put (cs := #[.int .i64 ((rd_T45 l1 x20_1).f0), .int .i64 0, .slice none 0 0, .bool false]) ?_ 1 _ rfl; (with_reducible repeat (first | refine blk_drewN ?_ _ | refine blk_drew ?_ | refine blk_alloc ?_ _)); refine blk_put (cs := #[.int .i64 0, .int .i64 0, .slice none 0 0, .bool false]) ?_ 0 _ rfl; (with_reducible repeat (first | refine blk_drewN ?_ _ | refine blk_drew ?_ | refine blk_alloc ?_ _)); exact BK131.out) hb); have n2_ := Aside0.mk (below_step (by repeat (first | (with_reducible first | exact HB.out | apply below_alloc | apply pw_below_drewN | apply below_drew1 | refine below_set ?_ GE128.out | refine below_set ?_ GE131.out) | exact HB.out)) hb); clear BK128; clear BK131; clear HB; have BK128 := n0_; have BK131 := n1_; have HB := n2_; clear n0_ n1_ n2_; (try clear hb); (try clear hb2); (try clear hk); (try clear hi); have hcz22_0 : w21.cell? ⟨gb131, 0, none⟩ = some (.int .i64 ((rd_T45 l1 x20_1).f0)) := (blk_cell BK131.out 0).trans rfl; have hcz22_1 : w21.cell? ⟨gb131, 1, none⟩ = some (.int .i64 ((rd_T45 l1 x20_1).f1)) := (blk_cell BK131.out 1).trans rfl; have hcz22_2 : w21.cell? ⟨gb131, 2, none⟩ = some (.slice A130_2 ((rd_T45 l1 x20_1).f2).length c130_2) := (blk_cell BK131.out 2).trans rfl; have hcz22_3 : w21.cell? ⟨gb131, 3, none⟩ = some (.bool ((rd_T45 l1 x20_1).f3)) := (blk_cell BK131.out 3).trans rfl; have hfz22_0 := blk_frozen BK131.out 0; have hfz22_1 := blk_frozen BK131.out 1; have hfz22_2 := blk_frozen BK131.out 2; have hfz22_3 := blk_frozen BK131.out 3))
                  go_roundg k1
                  case measure => have := HK1.out; omega
                  case rel => exact ⟨(wrap64 (x6_1 + ((rd_T45 l1 x20_1).f0))), (wrap64 (x20_1 + 1)), (by first | rfl | (simp; done) | (simp [*]; done)), (by first | rfl | (simp; done) | (simp [*]; done)), H', ⟨by have := HK1.out; omega⟩, ⟨by (with_reducible repeat (first | refine blk_drewN ?_ _ | refine blk_drew ?_ | refine blk_alloc ?_ _)); exact BK128.out⟩, ⟨by repeat (first | (with_reducible first | exact HB.out | apply below_alloc | apply pw_below_drewN | apply below_drew1 | refine below_set ?_ GE128.out | refine below_set ?_ GE131.out) | exact HB.out)⟩⟩
                · rw [if_neg c16] at H
                  have c16b0 : (t132 == 0) = false := beq_eq_false_iff_ne.mpr c16
                  have c16b1 : (t132 != 0) = true := bne_iff_ne.mpr c16
                  obtain rfl := Option.some.inj H
                  have p130 : 0 ≤ (x20_1 : Int) := of_decide_eq_true (by first | (with_reducible assumption) | assumption)
                  have q130 : x20_1 < (l1.length : Int) := of_decide_eq_true (by first | (with_reducible assumption) | assumption)
                  obtain ⟨ad130, A130_2, c130_2, e130, hx130_0, hx130_1, hx130_2, hx130_3, hl130_2, hi130_2⟩ := at_T45 HR1.out x20_1 p130 q130
                  cases e130
                  replace hx130_0 := (HB.out.cell (World.block_lt_of_cell? w _ hx130_0)).trans hx130_0
                  replace hx130_1 := (HB.out.cell (World.block_lt_of_cell? w _ hx130_1)).trans hx130_1
                  replace hx130_2 := (HB.out.cell (World.block_lt_of_cell? w _ hx130_2)).trans hx130_2
                  replace hx130_3 := (HB.out.cell (World.block_lt_of_cell? w _ hx130_3)).trans hx130_3
                  have HR130_2 := Aside0.mk hi130_2
                  have HC130_2 := Aside0.mk hl130_2
                  clear hi130_2 hl130_2
                  replace p130 := eq_true p130
                  replace q130 := eq_true q130
                  go_wp2_with (first | ((with_reducible refine gate_dst (N := 8) rfl ?_); refine box_event ?hg (N := 8) ?hd (cs := #[.int .i64 0, .int .i64 0, .slice none 0 0, .bool false]) (t := 45) ?hr ?_; (case hd => rfl); (case hg => rfl); (case hr => first | (go_simp; done) | (go_simp; rfl)); intro gb131 hg w23 hbox hb; have n0_ := Aside0.mk (blk_below (g := gb128) (o := .cells #[.slice A0_0 l0_0.length c0_0, .slice A0_1 l0_1.length c0_1, .slice A0_2 l0_2.length c0_2, .slice A0_3 l0_3.length c0_3, .slice A0_4 l0_4.length c0_4] 29 (0, 0)) (by (with_reducible repeat (first | refine blk_drewN ?_ _ | refine blk_drew ?_ | refine blk_alloc ?_ _)); exact BK128.out) hb); have n1_ := Aside0.mk (below_step (by repeat (first | (with_reducible first | exact HB.out | apply below_alloc | apply pw_below_drewN | apply below_drew1 | refine below_set ?_ GE128.out) | exact HB.out)) hb); have n2_ := Aside0.mk (hbox); have n3_ := Aside0.mk ((by rw [hg]; exact (below_size (by repeat (first | (with_reducible first | exact HB.out | apply below_alloc | apply pw_below_drewN | apply below_drew1 | refine below_set ?_ GE128.out) | exact HB.out))) : w.heap.size ≤ gb131)); have n4_ := Aside0.mk ((by rw [hg]; exact (below_size (by repeat (first | (with_reducible first | exact HB.out | apply below_alloc | apply pw_below_drewN | apply below_drew1 | refine below_set ?_ GE128.out) | exact HB.out))) : w.heap.size ≤ gb131)); have n5_ := Aside0.mk ((by rw [hg]; exact Nat.ne_of_lt (blk_lt (g := gb128) (o := .cells #[.slice A0_0 l0_0.length c0_0, .slice A0_1 l0_1.length c0_1, .slice A0_2 l0_2.length c0_2, .slice A0_3 l0_3.length c0_3, .slice A0_4 l0_4.length c0_4] 29 (0, 0)) (by (with_reducible repeat (first | refine blk_drewN ?_ _ | refine blk_drew ?_ | refine blk_alloc ?_ _)); exact BK128.out)) : gb128 ≠ gb131)); have n6_ := Aside0.mk ((by rw [hg]; exact Nat.ne_of_gt (blk_lt (g := gb128) (o := .cells #[.slice A0_0 l0_0.length c0_0, .slice A0_1 l0_1.length c0_1, .slice A0_2 l0_2.length c0_2, .slice A0_3 l0_3.length c0_3, .slice A0_4 l0_4.length c0_4] 29 (0, 0)) (by (with_reducible repeat (first | refine blk_drewN ?_ _ | refine blk_drew ?_ | refine blk_alloc ?_ _)); exact BK128.out)) : gb131 ≠ gb128)); clear BK128; clear HB; have BK128 := n0_; have HB := n1_; have BK131 := n2_; have GW131 := n3_; have GE131 := n4_; have NB128_131 := n5_; have NB131_128 := n6_; clear n0_ n1_ n2_ n3_ n4_ n5_ n6_; clear hb hbox hg; have hnb24 := NB131_128.out; have hnc24 := NB128_131.out; have hcz25_0 : w23.cell? ⟨gb131, 0, none⟩ = some (.int .i64 0) := (blk_cell BK131.out 0).trans rfl; have hcz25_1 : w23.cell? ⟨gb131, 1, none⟩ = some (.int .i64 0) := (blk_cell BK131.out 1).trans rfl; have hcz25_2 : w23.cell? ⟨gb131, 2, none⟩ = some (.slice none 0 0) := (blk_cell BK131.out 2).trans rfl; have hcz25_3 : w23.cell? ⟨gb131, 3, none⟩ = some (.bool false) := (blk_cell BK131.out 3).trans rfl; have hfz25_0 := blk_frozen BK131.out 0; have hfz25_1 := blk_frozen BK131.out 1; have hfz25_2 := blk_frozen BK131.out 2; have hfz25_3 := blk_frozen BK131.out 3; have hcz26_0 : w23.cell? ⟨gb128, 0, none⟩ = some (.slice A0_0 l0_0.length c0_0) := (blk_cell BK128.out 0).trans rfl; have hcz26_1 : w23.cell? ⟨gb128, 1, none⟩ = some (.slice A0_1 l0_1.length c0_1) := (blk_cell BK128.out 1).trans rfl; have hcz26_2 : w23.cell? ⟨gb128, 2, none⟩ = some (.slice A0_2 l0_2.length c0_2) := (blk_cell BK128.out 2).trans rfl; have hcz26_3 : w23.cell? ⟨gb128, 3, none⟩ = some (.slice A0_3 l0_3.length c0_3) := (blk_cell BK128.out 3).trans rfl; have hcz26_4 : w23.cell? ⟨gb128, 4, none⟩ = some (.slice A0_4 l0_4.length c0_4) := (blk_cell BK128.out 4).trans rfl; have hfz26_0 := blk_frozen BK128.out 0; have hfz26_1 := blk_frozen BK128.out 1; have hfz26_2 := blk_frozen BK128.out 2; have hfz26_3 := blk_frozen BK128.out 3; have hfz26_4 := blk_frozen BK128.out 4) | ((with_reducible refine gate_callee (f := 103) rfl ?_); refine goesL_ (some 26) rfl rfl Try.func103 (by kernel_rfl) rfl #[.agg #[.slice A0_0 l0_0.length c0_0, .slice A0_1 l0_1.length c0_1, .slice A0_2 l0_2.length c0_2, .slice A0_3 l0_3.length c0_3, .slice A0_4 l0_4.length c0_4], .agg #[.int .i64 ((rd_T45 l1 x20_1).f0), .int .i64 ((rd_T45 l1 x20_1).f1), .slice A130_2 ((rd_T45 l1 x20_1).f2).length c130_2, .bool ((rd_T45 l1 x20_1).f3)]] rfl (by (try simp only [List.map_toArray, List.map_cons, List.map_nil]); first | done | rfl | (simp only [List.length_drop, List.length_take]; rfl)) ?_; (with_reducible refine (pump_stage.calls k1 _ _ l0_0 _ _ l0_1 _ _ l0_2 _ _ l0_3 _ _ l0_4 ((rd_T45 l1 x20_1).f0) ((rd_T45 l1 x20_1).f1) _ _ ((rd_T45 l1 x20_1).f2) ((rd_T45 l1 x20_1).f3) t132 _ ?side1 ?side2 ?side3 ?side4 ?side5 ?side6 ?side7 ?side8 ?side9 ?side10 ?side11 ?side12 A15.out).mono ?_); (case side1 => exact Kd.C_below HR0_0.out (by repeat (first | (with_reducible first | exact HB.out | apply below_alloc | apply pw_below_drewN | apply below_drew1 | refine below_set ?_ GE128.out | refine below_set ?_ GE131.out) | exact HB.out))); (case side2 => exact HC0_0.out); (case side3 => exact Kd.C_below HR0_1.out (by repeat (first | (with_reducible first | exact HB.out | apply below_alloc | apply pw_below_drewN | apply below_drew1 | refine below_set ?_ GE128.out | refine below_set ?_ GE131.out) | exact HB.out))); (case side4 => exact HC0_1.out); (case side5 => exact Kd.C_below HR0_2.out (by repeat (first | (with_reducible first | exact HB.out | apply below_alloc | apply pw_below_drewN | apply below_drew1 | refine below_set ?_ GE128.out | refine below_set ?_ GE131.out) | exact HB.out))); (case side6 => exact HC0_2.out); (case side7 => exact Kd.C_below HR0_3.out (by repeat (first | (with_reducible first | exact HB.out | apply below_alloc | apply pw_below_drewN | apply below_drew1 | refine below_set ?_ GE128.out | refine below_set ?_ GE131.out) | exact HB.out))); (case side8 => exact HC0_3.out); (case side9 => exact Kd.C_below HR0_4.out (by repeat (first | (with_reducible first | exact HB.out | apply below_alloc | apply pw_below_drewN | apply below_drew1 | refine below_set ?_ GE128.out | refine below_set ?_ GE131.out) | exact HB.out))); (case side10 => exact HC0_4.out); (case side11 => exact Kd.C_below HR130_2.out (by repeat (first | (with_reducible first | exact HB.out | apply below_alloc | apply pw_below_drewN | apply below_drew1 | refine below_set ?_ GE128.out | refine below_set ?_ GE131.out) | exact HB.out))); (case side12 => exact HC130_2.out); rintro e w27 ⟨rfl, hb⟩; refine ⟨_, rfl, ?_⟩; have n0_ := Aside0.mk (blk_below (g := gb128) (o := .cells #[.slice A0_0 l0_0.length c0_0, .slice A0_1 l0_1.length c0_1, .slice A0_2 l0_2.length c0_2, .slice A0_3 l0_3.length c0_3, .slice A0_4 l0_4.length c0_4] 29 (0, 0)) (by (with_reducible repeat (first | refine blk_drewN ?_ _ | refine blk_drew ?_ | refine blk_alloc ?_ _)); refine blk_far ?_ NB128_131.out _; (with_reducible repeat (first | refine blk_drewN ?_ _ | refine blk_drew ?_ | refine blk_alloc ?_ _)); refine blk_far ?_ NB128_131.out _; (with_reducible repeat (first | refine blk_drewN ?_ _ | refine blk_drew ?_ | refine blk_alloc ?_ _)); refine blk_far ?_ NB128_131.out _; (with_reducible repeat (first | refine blk_drewN ?_ _ | refine blk_drew ?_ | refine blk_alloc ?_ _)); refine blk_far ?_ NB128_131.out _; (with_reducible repeat (first | refine blk_drewN ?_ _ | refine blk_drew ?_ | refine blk_alloc ?_ _)); exact BK128.out) hb); have n1_ := Aside0.mk (blk_below (g := gb131) (o := .cells #[.int .i64 ((rd_T45 l1 x20_1).f0), .int .i64 ((rd_T45 l1 x20_1).f1), .slice A130_2 ((rd_T45 l1 x20_1).f2).length c130_2, .bool ((rd_T45 l1 x20_1).f3)] 45 (0, 0)) (by (with_reducible repeat (first | refine blk_drewN ?_ _ | refine blk_drew ?_ | refine blk_alloc ?_ _)); refine blk_put (cs := #[.int .i64 ((rd_T45 l1 x20_1).f0), .int .i64 ((rd_T45 l1 x20_1).f1), .slice A130_2 ((rd_T45 l1 x20_1).f2).length c130_2, .bool false]) ?_ 3 _ rfl; (with_reducible repeat (first | refine blk_drewN ?_ _ | refine blk_drew ?_ | refine blk_alloc ?_ _)); refine blk_put (cs := #[.int .i64 ((rd_T45 l1 x20_1).f0), .int .i64 ((rd_T45 l1 x20_1).f1), .slice none 0 0, .bool false]) ?_ 2 _ rfl; (with_reducible repeat (first | refine blk_drewN ?_ _ | refine blk_drew ?_ | refine blk_alloc ?_ _)); refine blk_put (cs := #[.int .i64 ((rd_T45 l1 x20_1).f0), .int .i64 0, .slice none 0 0, .bool false]) ?_ 1 _ rfl; (with_reducible repeat (first | refine blk_drewN ?_ _ | refine blk_drew ?_ | refine blk_alloc ?_ _)); refine blk_put (cs := #[.int .i64 0, .int .i64 0, .slice none 0 0, .bool false]) ?_ 0 _ rfl; (with_reducible repeat (first | refine blk_drewN ?_ _ | refine blk_drew ?_ | refine blk_alloc ?_ _)); exact BK131.out) hb); have n2_ := Aside0.mk (below_step (by repeat (first | (with_reducible first | exact HB.out | apply below_alloc | apply pw_below_drewN | apply below_drew1 | refine below_set ?_ GE128.out | refine below_set ?_ GE131.out) | exact HB.out)) hb); clear BK128; clear BK131; clear HB; have BK128 := n0_; have BK131 := n1_; have HB := n2_; clear n0_ n1_ n2_; (try clear hb); (try clear hb2); (try clear hk); (try clear hi)))
                  go_ret
                  exact ⟨by first | rfl | (simp [errW_none, errW_some] <;> rfl) | (simp [*, errW_none, errW_some] <;> rfl), by repeat (first | (with_reducible first | exact HB.out | apply below_alloc | apply pw_below_drewN | apply below_drew1 | refine below_set ?_ GE128.out | refine below_set ?_ GE131.out) | exact HB.out)⟩
              · rw [if_neg c14] at H
                exact absurd H (by simp)
            · rw [if_neg c13] at H
              exact absurd H (by simp)
          · rw [if_neg c12] at H
            have c12b0 : decide (x20_1 < (l1.length : Int)) = false := decide_eq_false c12
            clear c12
            by_cases c28 : x6_1 > 2000
            · rw [if_pos c28] at H
              have c28b0 : decide (2000 < x6_1) = true := decide_eq_true c28
              clear c28
              obtain rfl := Option.some.inj H
              go_wp2
              go_ret
              exact ⟨by first | rfl | (simp [errW_none, errW_some] <;> rfl) | (simp [*, errW_none, errW_some] <;> rfl), by repeat (first | (with_reducible first | exact HB.out | apply below_alloc | apply pw_below_drewN | apply below_drew1 | refine below_set ?_ GE128.out) | exact HB.out)⟩
            · rw [if_neg c28] at H
              have c28b0 : decide (2000 < x6_1) = false := decide_eq_false c28
              clear c28
              obtain rfl := Option.some.inj H
              go_wp2
              go_ret
              exact ⟨by first | rfl | (simp [errW_none, errW_some] <;> rfl) | (simp [*, errW_none, errW_some] <;> rfl), by repeat (first | (with_reducible first | exact HB.out | apply below_alloc | apply pw_below_drewN | apply below_drew1 | refine below_set ?_ GE128.out) | exact HB.out)⟩
  · rw [if_neg c4] at H
    have c4b0 : (t129 == 0) = false := beq_eq_false_iff_ne.mpr c4
    have c4b1 : (t129 != 0) = true := bne_iff_ne.mpr c4
    obtain rfl := Option.some.inj H
    go_enter Try.func73, Try.ntmps73
    go_wp2_with (first | ((with_reducible refine gate_dst (N := 2) rfl ?_); refine box_event ?hg (N := 2) ?hd (cs := #[.slice A0_0 l0_0.length c0_0, .slice A0_1 l0_1.length c0_1, .slice A0_2 l0_2.length c0_2, .slice A0_3 l0_3.length c0_3, .slice A0_4 l0_4.length c0_4]) (t := 29) ?hr ?_; (case hd => rfl); (case hg => rfl); (case hr => first | (go_simp; done) | (go_simp; rfl)); intro gb128 hg w29 hbox hb; have n0_ := Aside0.mk (below_step (by repeat (first | (with_reducible first | exact HB.out | apply below_alloc | apply pw_below_drewN | apply below_drew1) | exact HB.out)) hb); have n1_ := Aside0.mk (hbox); have n2_ := Aside0.mk ((by rw [hg]; exact (below_size (by repeat (first | (with_reducible first | exact HB.out | apply below_alloc | apply pw_below_drewN | apply below_drew1) | exact HB.out))) : w.heap.size ≤ gb128)); have n3_ := Aside0.mk ((by rw [hg]; exact (below_size (by repeat (first | (with_reducible first | exact HB.out | apply below_alloc | apply pw_below_drewN | apply below_drew1) | exact HB.out))) : w.heap.size ≤ gb128)); clear HB; have HB := n0_; have BK128 := n1_; have GW128 := n2_; have GE128 := n3_; clear n0_ n1_ n2_ n3_; clear hb hbox hg; have hcz30_0 : w29.cell? ⟨gb128, 0, none⟩ = some (.slice A0_0 l0_0.length c0_0) := (blk_cell BK128.out 0).trans rfl; have hcz30_1 : w29.cell? ⟨gb128, 1, none⟩ = some (.slice A0_1 l0_1.length c0_1) := (blk_cell BK128.out 1).trans rfl; have hcz30_2 : w29.cell? ⟨gb128, 2, none⟩ = some (.slice A0_2 l0_2.length c0_2) := (blk_cell BK128.out 2).trans rfl; have hcz30_3 : w29.cell? ⟨gb128, 3, none⟩ = some (.slice A0_3 l0_3.length c0_3) := (blk_cell BK128.out 3).trans rfl; have hcz30_4 : w29.cell? ⟨gb128, 4, none⟩ = some (.slice A0_4 l0_4.length c0_4) := (blk_cell BK128.out 4).trans rfl; have hfz30_0 := blk_frozen BK128.out 0; have hfz30_1 := blk_frozen BK128.out 1; have hfz30_2 := blk_frozen BK128.out 2; have hfz30_3 := blk_frozen BK128.out 3; have hfz30_4 := blk_frozen BK128.out 4) | ((with_reducible refine gate_callee (f := 37) rfl ?_); refine goesL_ (some 11) rfl rfl Try.func37 (by kernel_rfl) rfl #[.agg #[.slice A0_0 l0_0.length c0_0, .slice A0_1 l0_1.length c0_1, .slice A0_2 l0_2.length c0_2, .slice A0_3 l0_3.length c0_3, .slice A0_4 l0_4.length c0_4]] rfl (by (try simp only [List.map_toArray, List.map_cons, List.map_nil]); first | done | rfl | (simp only [List.length_drop, List.length_take]; rfl)) ?_; (with_reducible refine (pump_Check.calls _ _ l0_0 _ _ l0_1 _ _ l0_2 _ _ l0_3 _ _ l0_4 t129 _ ?side1 ?side2 ?side3 ?side4 ?side5 ?side6 ?side7 ?side8 ?side9 ?side10 A3.out).mono ?_); (case side1 => repeat (first | exact (Kd.C_below HR0_0.out HB.out) | (with_reducible refine Kd.C_alloc ?_ _) | (with_reducible refine Kd.C_drewN ?_ _) | (with_reducible refine Kd.C_drew ?_))); (case side2 => exact HC0_0.out); (case side3 => repeat (first | exact (Kd.C_below HR0_1.out HB.out) | (with_reducible refine Kd.C_alloc ?_ _) | (with_reducible refine Kd.C_drewN ?_ _) | (with_reducible refine Kd.C_drew ?_))); (case side4 => exact HC0_1.out); (case side5 => repeat (first | exact (Kd.C_below HR0_2.out HB.out) | (with_reducible refine Kd.C_alloc ?_ _) | (with_reducible refine Kd.C_drewN ?_ _) | (with_reducible refine Kd.C_drew ?_))); (case side6 => exact HC0_2.out); (case side7 => repeat (first | exact (Kd.C_below HR0_3.out HB.out) | (with_reducible refine Kd.C_alloc ?_ _) | (with_reducible refine Kd.C_drewN ?_ _) | (with_reducible refine Kd.C_drew ?_))); (case side8 => exact HC0_3.out); (case side9 => repeat (first | exact (Kd.C_below HR0_4.out HB.out) | (with_reducible refine Kd.C_alloc ?_ _) | (with_reducible refine Kd.C_drewN ?_ _) | (with_reducible refine Kd.C_drew ?_))); (case side10 => exact HC0_4.out); rintro e w31 ⟨rfl, hb⟩; refine ⟨_, rfl, ?_⟩; have n0_ := Aside0.mk (blk_below (g := gb128) (o := .cells #[.slice A0_0 l0_0.length c0_0, .slice A0_1 l0_1.length c0_1, .slice A0_2 l0_2.length c0_2, .slice A0_3 l0_3.length c0_3, .slice A0_4 l0_4.length c0_4] 29 (0, 0)) (by (with_reducible repeat (first | refine blk_drewN ?_ _ | refine blk_drew ?_ | refine blk_alloc ?_ _)); exact BK128.out) hb); have n1_ := Aside0.mk (below_step (by repeat (first | (with_reducible first | exact HB.out | apply below_alloc | apply pw_below_drewN | apply below_drew1 | refine below_set ?_ GE128.out) | exact HB.out)) hb); clear BK128; clear HB; have BK128 := n0_; have HB := n1_; clear n0_ n1_; (try clear hb); (try clear hb2); (try clear hk); (try clear hi)))
    go_ret
    exact ⟨by first | rfl | (simp [errW_none, errW_some] <;> rfl) | (simp [*, errW_none, errW_some] <;> rfl), by repeat (first | (with_reducible first | exact HB.out | apply below_alloc | apply pw_below_drewN | apply below_drew1 | refine below_set ?_ GE128.out) | exact HB.out)⟩
def pump_suspects.l0 : Nat → Int → Int → Int → List Int → Int → Int → Option (Int × Int)
  | 0, _, _, _, _, _, _ => none
  | k + 1, x0, x6, x7, x10, x11, x12 => if x12 < x11 then (if 0 ≤ x12 then (if x12 < (x10.length : Int) then ((pump_from.f (rd x10 x12) 0 (wrap64 (x0 - 1))).bind fun t134 => (if t134 = true then (if (rd x10 x12) ≤ x7 then (some (0, 11)) else (if 0 ≤ (rd x10 x12) then (pump_suspects.l0 k x0 (Go.bits .or .u64 x6 (shl .u64 1 (rd x10 x12))) (rd x10 x12) x10 x11 (wrap64 (x12 + 1))) else (none))) else (some (0, 7)))) else (none)) else (none)) else (some (x6, 0))
def pump_suspects.f (k : Nat) (a0 : Int) (l1 : List Int) : Option (Int × Int) := pump_suspects.l0 k a0 0 (-1) l1 (l1.length : Int) 0
set_option maxHeartbeats 8000000 in
set_option maxRecDepth 100000 in
theorem pump_suspects.calls (k : Nat) (a0 : Int) (A1 : Option Addr) (c1 : Nat) (l1 : List Int) (r1 : Int) (r2 : Int) (w : World) (hr1 : Kd.C (Kd.int .i64) w A1 l1.length l1) (hc1 : l1.length ≤ c1) (h : pump_suspects.f k a0 l1 = some (r1, r2)) :
    Calls Try.prog 79 #[.int .i64 a0, .slice A1 l1.length c1] w fun e w' => e = .returned (.tuple #[.int .u64 r1, .int .i64 r2]) ∧ Drawn0 w w' := by
  have HR1 := Aside0.mk hr1
  have HC1 := Aside0.mk hc1
  clear hr1 hc1
  have H : (pump_suspects.l0 k a0 0 (-1) l1 (l1.length : Int) 0) = some (r1, r2) := h
  clear h
  have H' := Aside0.mk H
  clear H
  go_enter Try.func79, Try.ntmps79
  go_wp2
  go_loopg [6, 7, 12] k (fun kq v6 v7 v12 w' => ∃ (x6_1 : Int) (x7_1 : Int) (x12_1 : Int), v6 = .int .u64 x6_1 ∧ v7 = .int .i64 x7_1 ∧ v12 = .int .i64 x12_1 ∧ Aside0 (pump_suspects.l0 kq a0 x6_1 x7_1 l1 (l1.length : Int) x12_1 = some (r1, r2)) ∧ Aside0 (kq ≤ k) ∧ Drawn0 w w')
  case atStart => exact ⟨(0), ((-1)), (0), (by first | rfl | (simp; done) | (simp [*]; done)), (by first | rfl | (simp; done) | (simp [*]; done)), (by first | rfl | (simp; done) | (simp [*]; done)), H', ⟨Nat.le_refl _⟩, by repeat (first | exact Drawn0.refl _ | apply Drawn0.step)⟩
  case round =>
    clear H'
    try clear c1
    try clear p2
    obtain ⟨x6_1, x7_1, x12_1, rfl, rfl, rfl, HA, HK1, ⟨m1, rfl⟩⟩ := hrel
    cases gk with
    | zero => exact absurd HA.out (by simp [pump_suspects.l0])
    | succ k1 =>
      have H := HA.out
      clear HA
      simp only [pump_suspects.l0] at H
      by_cases c3 : x12_1 < (l1.length : Int)
      · rw [if_pos c3] at H
        have c3b0 : decide (x12_1 < (l1.length : Int)) = true := decide_eq_true c3
        clear c3
        by_cases c4 : 0 ≤ x12_1
        · rw [if_pos c4] at H
          have c4b0 : decide (0 ≤ x12_1) = true := decide_eq_true c4
          clear c4
          by_cases c5 : x12_1 < (l1.length : Int)
          · rw [if_pos c5] at H
            have c5b0 : decide (x12_1 < (l1.length : Int)) = true := decide_eq_true c5
            clear c5
            replace H := Option.bind_eq_some_iff.mp H
            obtain ⟨t134, A60, H⟩ := H
            replace H : (if t134 = true then (if (rd l1 x12_1) ≤ x7_1 then (some (0, 11)) else (if 0 ≤ (rd l1 x12_1) then (pump_suspects.l0 k1 a0 (Go.bits .or .u64 x6_1 (shl .u64 1 (rd l1 x12_1))) (rd l1 x12_1) l1 (l1.length : Int) (wrap64 (x12_1 + 1))) else (none))) else (some (0, 7))) = some (r1, r2) := H
            have A6 := Aside0.mk A60
            clear A60
            by_cases c7 : t134 = true
            · subst c7
              have H1 : (if (rd l1 x12_1) ≤ x7_1 then (some (0, 11)) else (if 0 ≤ (rd l1 x12_1) then (pump_suspects.l0 k1 a0 (Go.bits .or .u64 x6_1 (shl .u64 1 (rd l1 x12_1))) (rd l1 x12_1) l1 (l1.length : Int) (wrap64 (x12_1 + 1))) else (none))) = some (r1, r2) := by rw [if_pos rfl] at H; exact H
              clear H
              have H := H1
              clear H1
              by_cases c8 : (rd l1 x12_1) ≤ x7_1
              · rw [if_pos c8] at H
                have c8b0 : decide ((rd l1 x12_1) ≤ x7_1) = true := decide_eq_true c8
                clear c8
                simp only [Option.some.injEq, Prod.mk.injEq] at H
                obtain ⟨rfl, rfl⟩ := H
                have p133 : 0 ≤ (x12_1 : Int) := of_decide_eq_true (by first | (with_reducible assumption) | assumption)
                have q133 : x12_1 < (l1.length : Int) := of_decide_eq_true (by first | (with_reducible assumption) | assumption)
                obtain ⟨ad133, e133, hx133_0⟩ := Kd.at_int HR1.out x12_1 p133 q133
                cases e133
                replace p133 := eq_true p133
                replace q133 := eq_true q133
                go_wp2_with (first | ((with_reducible refine gate_callee (f := 86) rfl ?_); refine goesL_ (some 20) rfl rfl Try.func86 (by kernel_rfl) rfl #[.int .i64 (rd l1 x12_1), .int .i64 0, .int .i64 (wrap64 (a0 - 1))] rfl (by (try simp only [List.map_toArray, List.map_cons, List.map_nil]); first | done | rfl | (simp only [List.length_drop, List.length_take]; rfl)) ?_; (with_reducible refine (pump_from.calls (rd l1 x12_1) 0 (wrap64 (a0 - 1)) true _ A6.out).mono ?_); rintro e w' ⟨rfl, ⟨nd, rfl⟩⟩; refine ⟨_, rfl, ?_⟩))
                go_ret2
                exact ⟨by first | rfl | (simp; done) | (simp [*]; done), by repeat (first | exact Drawn0.refl _ | apply Drawn0.step)⟩
              · rw [if_neg c8] at H
                have c8b0 : decide ((rd l1 x12_1) ≤ x7_1) = false := decide_eq_false c8
                clear c8
                by_cases c9 : 0 ≤ (rd l1 x12_1)
                · rw [if_pos c9] at H
                  have c9b0 := eq_true c9
                  have c9b1 : decide (0 ≤ (rd l1 x12_1)) = true := decide_eq_true c9
                  clear c9
                  obtain ⟨ji10, hji10⟩ : ∃ j_ : Int, (shl .u64 1 (rd l1 x12_1)) = j_ := ⟨_, rfl⟩
                  replace H : (pump_suspects.l0 k1 a0 (Go.bits .or .u64 x6_1 (ji10)) (rd l1 x12_1) l1 (l1.length : Int) (wrap64 (x12_1 + 1))) = some (r1, r2) := by first | (rw [hji10] at H; exact H) | (simp only [hji10] at H ⊢; exact H)
                  (try rw [hji10] at A6)
                  have hji10_ : (IntKind.u64.wrap (1 * 2 ^ min (rd l1 x12_1).toNat 64)) = ji10 := hji10
                  have hji10z : (rd l1 x12_1) ≤ 64 → (IntKind.u64.wrap (1 * 2 ^ (rd l1 x12_1).toNat)) = ji10 := shl_small hji10
                  have hji10u : (IntKind.u64.wrap (2 ^ min (rd l1 x12_1).toNat 64)) = ji10 := by have h_ := hji10_; rw [Int.one_mul] at h_; exact h_
                  have hji10v : (rd l1 x12_1) ≤ 64 → (IntKind.u64.wrap (2 ^ (rd l1 x12_1).toNat)) = ji10 := fun hle_ => by have h_ := hji10z hle_; rw [Int.one_mul] at h_; exact h_
                  have H' := Aside0.mk H
                  clear H
                  have p133 : 0 ≤ (x12_1 : Int) := of_decide_eq_true (by first | (with_reducible assumption) | assumption)
                  have q133 : x12_1 < (l1.length : Int) := of_decide_eq_true (by first | (with_reducible assumption) | assumption)
                  obtain ⟨ad133, e133, hx133_0⟩ := Kd.at_int HR1.out x12_1 p133 q133
                  cases e133
                  replace p133 := eq_true p133
                  replace q133 := eq_true q133
                  go_wp2_with (first | ((with_reducible refine gate_callee (f := 86) rfl ?_); refine goesL_ (some 20) rfl rfl Try.func86 (by kernel_rfl) rfl #[.int .i64 (rd l1 x12_1), .int .i64 0, .int .i64 (wrap64 (a0 - 1))] rfl (by (try simp only [List.map_toArray, List.map_cons, List.map_nil]); first | done | rfl | (simp only [List.length_drop, List.length_take]; rfl)) ?_; (with_reducible refine (pump_from.calls (rd l1 x12_1) 0 (wrap64 (a0 - 1)) true _ A6.out).mono ?_); rintro e w' ⟨rfl, ⟨nd, rfl⟩⟩; refine ⟨_, rfl, ?_⟩))
                  go_roundg k1
                  case measure => have := HK1.out; omega
                  case rel => exact ⟨(Go.bits .or .u64 x6_1 (ji10)), (rd l1 x12_1), (wrap64 (x12_1 + 1)), (by first | rfl | (simp; done) | (simp only [← hji10] <;> (first | rfl | simp)) | (simp [*]; done)), (by first | rfl | (simp; done) | (simp [*]; done)), (by first | rfl | (simp; done) | (simp [*]; done)), H', ⟨by have := HK1.out; omega⟩, by repeat (first | exact Drawn0.refl _ | apply Drawn0.step)⟩
                · rw [if_neg c9] at H
                  exact absurd H (by simp)
            · replace c7 := Bool.eq_false_iff.mpr c7
              subst c7
              have H1 : (some (0, 7)) = some (r1, r2) := by rw [if_neg (show ¬ (false = true) by decide)] at H; exact H
              clear H
              have H := H1
              clear H1
              simp only [Option.some.injEq, Prod.mk.injEq] at H
              obtain ⟨rfl, rfl⟩ := H
              have p133 : 0 ≤ (x12_1 : Int) := of_decide_eq_true (by first | (with_reducible assumption) | assumption)
              have q133 : x12_1 < (l1.length : Int) := of_decide_eq_true (by first | (with_reducible assumption) | assumption)
              obtain ⟨ad133, e133, hx133_0⟩ := Kd.at_int HR1.out x12_1 p133 q133
              cases e133
              replace p133 := eq_true p133
              replace q133 := eq_true q133
              go_wp2_with (first | ((with_reducible refine gate_callee (f := 86) rfl ?_); refine goesL_ (some 20) rfl rfl Try.func86 (by kernel_rfl) rfl #[.int .i64 (rd l1 x12_1), .int .i64 0, .int .i64 (wrap64 (a0 - 1))] rfl (by (try simp only [List.map_toArray, List.map_cons, List.map_nil]); first | done | rfl | (simp only [List.length_drop, List.length_take]; rfl)) ?_; (with_reducible refine (pump_from.calls (rd l1 x12_1) 0 (wrap64 (a0 - 1)) false _ A6.out).mono ?_); rintro e w' ⟨rfl, ⟨nd, rfl⟩⟩; refine ⟨_, rfl, ?_⟩))
              go_ret2
              exact ⟨by first | rfl | (simp; done) | (simp [*]; done), by repeat (first | exact Drawn0.refl _ | apply Drawn0.step)⟩
          · rw [if_neg c5] at H
            exact absurd H (by simp)
        · rw [if_neg c4] at H
          exact absurd H (by simp)
      · rw [if_neg c3] at H
        have c3b0 : decide (x12_1 < (l1.length : Int)) = false := decide_eq_false c3
        clear c3
        simp only [Option.some.injEq, Prod.mk.injEq] at H
        obtain ⟨rfl, rfl⟩ := H
        go_wp2
        go_ret2
        exact ⟨by first | rfl | (simp; done) | (simp [*]; done), by repeat (first | exact Drawn0.refl _ | apply Drawn0.step)⟩
def pump_CheckHunt.l0 : Nat → List (S62) → Int → Int → Int → List (S62) → Option (Int)
  | 0, _, _, _, _, _ => none
  | k + 1, x18, x19, x20, x136000, x136001 => if x20 < x19 then (if 0 ≤ x20 then (if x20 < (x18.length : Int) then ((pump_suspects.f k x136000 ((rd_T62 x18 x20).f0)).bind fun bt139 => (if bt139.2 = 0 then ((pump_from.f ((rd_T62 x18 x20).f1) 0 1000).bind fun t141 => (if t141 = true then (pump_CheckHunt.l0 k x18 x19 (wrap64 (x20 + 1)) x136000 x136001) else (some 2))) else (some bt139.2))) else (none)) else (none)) else (some 0)
def pump_CheckHunt.f (k : Nat) (a0_0 : Int) (l0_1 : List (S62)) : Option (Int) := (pump_from.f a0_0 1 12).bind fun t136 => (if t136 = true then (if (l0_1.length : Int) > 12 then (some 8) else (pump_CheckHunt.l0 k l0_1 (l0_1.length : Int) 0 a0_0 l0_1)) else (some 2))
set_option maxHeartbeats 8000000 in
set_option maxRecDepth 100000 in
theorem pump_CheckHunt.calls (k : Nat) (a0_0 : Int) (A0_1 : Option Addr) (c0_1 : Nat) (l0_1 : List (S62)) (r : Int) (w : World) (hr0_1 : Kd.C k62 w A0_1 l0_1.length l0_1) (hc0_1 : l0_1.length ≤ c0_1) (h : pump_CheckHunt.f k a0_0 l0_1 = some r) :
    Calls Try.prog 46 #[.agg #[.int .i64 a0_0, .slice A0_1 l0_1.length c0_1]] w fun e w' => e = .returned (.int .i64 r) ∧ Below w.heap.size w w' := by
  have hu52 := Try.underlying52
  have hu62 := Try.underlying62
  have HR0_1 := Aside0.mk hr0_1
  have HC0_1 := Aside0.mk hc0_1
  clear hr0_1 hc0_1
  have HB := Aside0.mk (Below.refl w.heap.size w)
  have H : ((pump_from.f a0_0 1 12).bind fun t136 => (if t136 = true then (if (l0_1.length : Int) > 12 then (some 8) else (pump_CheckHunt.l0 k l0_1 (l0_1.length : Int) 0 a0_0 l0_1)) else (some 2))) = some r := h
  clear h
  replace H := Option.bind_eq_some_iff.mp H
  obtain ⟨t136, A20, H⟩ := H
  replace H : (if t136 = true then (if (l0_1.length : Int) > 12 then (some 8) else (pump_CheckHunt.l0 k l0_1 (l0_1.length : Int) 0 a0_0 l0_1)) else (some 2)) = some r := H
  have A2 := Aside0.mk A20
  clear A20
  by_cases c3 : t136 = true
  · subst c3
    have H1 : (if (l0_1.length : Int) > 12 then (some 8) else (pump_CheckHunt.l0 k l0_1 (l0_1.length : Int) 0 a0_0 l0_1)) = some r := by rw [if_pos rfl] at H; exact H
    clear H
    have H := H1
    clear H1
    by_cases c4 : (l0_1.length : Int) > 12
    · rw [if_pos c4] at H
      have c4b0 : decide (12 < (l0_1.length : Int)) = true := decide_eq_true c4
      have c4b1 : decide (12 < l0_1.length) = true := decide_eq_true (by omega)
      clear c4
      obtain rfl := Option.some.inj H
      go_enter Try.func46, Try.ntmps46
      go_wp2_with (first | ((with_reducible refine gate_dst (N := 1) rfl ?_); refine box_event ?hg (N := 1) ?hd (cs := #[.int .i64 a0_0, .slice A0_1 l0_1.length c0_1]) (t := 52) ?hr ?_; (case hd => rfl); (case hg => rfl); (case hr => first | (go_simp; done) | (go_simp; rfl)); intro gb135 hg w5 hbox hb; have n0_ := Aside0.mk (below_step (by repeat (first | (with_reducible first | exact HB.out | apply below_alloc | apply pw_below_drewN | apply below_drew1) | exact HB.out)) hb); have n1_ := Aside0.mk (hbox); have n2_ := Aside0.mk ((by rw [hg]; exact (below_size (by repeat (first | (with_reducible first | exact HB.out | apply below_alloc | apply pw_below_drewN | apply below_drew1) | exact HB.out))) : w.heap.size ≤ gb135)); have n3_ := Aside0.mk ((by rw [hg]; exact (below_size (by repeat (first | (with_reducible first | exact HB.out | apply below_alloc | apply pw_below_drewN | apply below_drew1) | exact HB.out))) : w.heap.size ≤ gb135)); clear HB; have HB := n0_; have BK135 := n1_; have GW135 := n2_; have GE135 := n3_; clear n0_ n1_ n2_ n3_; clear hb hbox hg; have hcz6_0 : w5.cell? ⟨gb135, 0, none⟩ = some (.int .i64 a0_0) := (blk_cell BK135.out 0).trans rfl; have hcz6_1 : w5.cell? ⟨gb135, 1, none⟩ = some (.slice A0_1 l0_1.length c0_1) := (blk_cell BK135.out 1).trans rfl; have hfz6_0 := blk_frozen BK135.out 0; have hfz6_1 := blk_frozen BK135.out 1) | ((with_reducible refine gate_callee (f := 86) rfl ?_); refine goesL_ (some 10) rfl rfl Try.func86 (by kernel_rfl) rfl #[.int .i64 a0_0, .int .i64 1, .int .i64 12] rfl (by (try simp only [List.map_toArray, List.map_cons, List.map_nil]); first | done | rfl | (simp only [List.length_drop, List.length_take]; rfl)) ?_; (with_reducible refine (pump_from.calls a0_0 1 12 true _ A2.out).mono ?_); rintro e w' ⟨rfl, ⟨nd, rfl⟩⟩; refine ⟨_, rfl, ?_⟩))
      go_ret
      exact ⟨by first | rfl | (simp [errW_none, errW_some] <;> rfl) | (simp [*, errW_none, errW_some] <;> rfl), by repeat (first | (with_reducible first | exact HB.out | apply below_alloc | apply pw_below_drewN | apply below_drew1 | refine below_set ?_ GE135.out) | exact HB.out)⟩
    · rw [if_neg c4] at H
      have c4b0 : decide (12 < (l0_1.length : Int)) = false := decide_eq_false c4
      have c4b1 : decide (12 < l0_1.length) = false := decide_eq_false (by omega)
      clear c4
      have H' := Aside0.mk H
      clear H
      go_enter Try.func46, Try.ntmps46
      go_wp2_with (first | ((with_reducible refine gate_dst (N := 1) rfl ?_); refine box_event ?hg (N := 1) ?hd (cs := #[.int .i64 a0_0, .slice A0_1 l0_1.length c0_1]) (t := 52) ?hr ?_; (case hd => rfl); (case hg => rfl); (case hr => first | (go_simp; done) | (go_simp; rfl)); intro gb135 hg w7 hbox hb; have n0_ := Aside0.mk (below_step (by repeat (first | (with_reducible first | exact HB.out | apply below_alloc | apply pw_below_drewN | apply below_drew1) | exact HB.out)) hb); have n1_ := Aside0.mk (hbox); have n2_ := Aside0.mk ((by rw [hg]; exact (below_size (by repeat (first | (with_reducible first | exact HB.out | apply below_alloc | apply pw_below_drewN | apply below_drew1) | exact HB.out))) : w.heap.size ≤ gb135)); have n3_ := Aside0.mk ((by rw [hg]; exact (below_size (by repeat (first | (with_reducible first | exact HB.out | apply below_alloc | apply pw_below_drewN | apply below_drew1) | exact HB.out))) : w.heap.size ≤ gb135)); clear HB; have HB := n0_; have BK135 := n1_; have GW135 := n2_; have GE135 := n3_; clear n0_ n1_ n2_ n3_; clear hb hbox hg; have hcz8_0 : w7.cell? ⟨gb135, 0, none⟩ = some (.int .i64 a0_0) := (blk_cell BK135.out 0).trans rfl; have hcz8_1 : w7.cell? ⟨gb135, 1, none⟩ = some (.slice A0_1 l0_1.length c0_1) := (blk_cell BK135.out 1).trans rfl; have hfz8_0 := blk_frozen BK135.out 0; have hfz8_1 := blk_frozen BK135.out 1) | ((with_reducible refine gate_callee (f := 86) rfl ?_); refine goesL_ (some 10) rfl rfl Try.func86 (by kernel_rfl) rfl #[.int .i64 a0_0, .int .i64 1, .int .i64 12] rfl (by (try simp only [List.map_toArray, List.map_cons, List.map_nil]); first | done | rfl | (simp only [List.length_drop, List.length_take]; rfl)) ?_; (with_reducible refine (pump_from.calls a0_0 1 12 true _ A2.out).mono ?_); rintro e w' ⟨rfl, ⟨nd, rfl⟩⟩; refine ⟨_, rfl, ?_⟩))
      go_loopg [20] k (fun kq v20 w' => ∃ (x20_1 : Int), v20 = .int .i64 x20_1 ∧ Aside0 (pump_CheckHunt.l0 kq l0_1 (l0_1.length : Int) x20_1 a0_0 l0_1 = some r) ∧ Aside0 (kq ≤ k) ∧ Aside0 (w'.heap[gb135]? = some (.cells #[.int .i64 a0_0, (.slice A0_1 l0_1.length c0_1)] 52 (0, 0))) ∧ Aside0 (Below w.heap.size w w'))
      case atStart => exact ⟨(0), (by first | rfl | (simp; done) | (simp [*]; done)), H', ⟨Nat.le_refl _⟩, ⟨by (with_reducible repeat (first | refine blk_drewN ?_ _ | refine blk_drew ?_ | refine blk_alloc ?_ _)); exact BK135.out⟩, ⟨by repeat (first | (with_reducible first | exact HB.out | apply below_alloc | apply pw_below_drewN | apply below_drew1 | refine below_set ?_ GE135.out) | exact HB.out)⟩⟩
      case round =>
        clear H'
        try clear p2
        try clear c3
        try clear c4
        try clear c4b0
        try clear c4b1
        try clear c8
        try clear hcz6_0
        try clear hcz6_1
        try clear hcz8_0
        try clear hcz8_1
        try clear hfz6_0
        try clear hfz6_1
        try clear hfz8_0
        try clear hfz8_1
        obtain ⟨x20_1, rfl, HA, HK1, BK135, HB⟩ := hrel
        cases gk with
        | zero => exact absurd HA.out (by simp [pump_CheckHunt.l0])
        | succ k1 =>
          have H := HA.out
          clear HA
          simp only [pump_CheckHunt.l0] at H
          by_cases c9 : x20_1 < (l0_1.length : Int)
          · rw [if_pos c9] at H
            have c9b0 : decide (x20_1 < (l0_1.length : Int)) = true := decide_eq_true c9
            clear c9
            by_cases c10 : 0 ≤ x20_1
            · rw [if_pos c10] at H
              have c10b0 : decide (0 ≤ x20_1) = true := decide_eq_true c10
              clear c10
              by_cases c11 : x20_1 < (l0_1.length : Int)
              · rw [if_pos c11] at H
                have c11b0 : decide (x20_1 < (l0_1.length : Int)) = true := decide_eq_true c11
                clear c11
                replace H := Option.bind_eq_some_iff.mp H
                obtain ⟨⟨t139, t140⟩, A120, H⟩ := H
                replace H : (if t140 = 0 then ((pump_from.f ((rd_T62 l0_1 x20_1).f1) 0 1000).bind fun t141 => (if t141 = true then (pump_CheckHunt.l0 k1 l0_1 (l0_1.length : Int) (wrap64 (x20_1 + 1)) a0_0 l0_1) else (some 2))) else (some t140)) = some r := H
                have A12 := Aside0.mk A120
                clear A120
                by_cases c13 : t140 = 0
                · rw [if_pos c13] at H
                  have c13b0 : (t140 == 0) = true := beq_iff_eq.mpr c13
                  have c13b1 : (t140 != 0) = false := bne_eq_false_iff_eq.mpr c13
                  clear c13
                  replace H := Option.bind_eq_some_iff.mp H
                  obtain ⟨t141, A140, H⟩ := H
                  replace H : (if t141 = true then (pump_CheckHunt.l0 k1 l0_1 (l0_1.length : Int) (wrap64 (x20_1 + 1)) a0_0 l0_1) else (some 2)) = some r := H
                  have A14 := Aside0.mk A140
                  clear A140
                  by_cases c15 : t141 = true
                  · subst c15
                    have H1 : (pump_CheckHunt.l0 k1 l0_1 (l0_1.length : Int) (wrap64 (x20_1 + 1)) a0_0 l0_1) = some r := by rw [if_pos rfl] at H; exact H
                    clear H
                    have H := H1
                    clear H1
                    have H' := Aside0.mk H
                    clear H
                    have p137 : 0 ≤ (x20_1 : Int) := of_decide_eq_true (by first | (with_reducible assumption) | assumption)
                    have q137 : x20_1 < (l0_1.length : Int) := of_decide_eq_true (by first | (with_reducible assumption) | assumption)
                    obtain ⟨ad137, A137_0, c137_0, e137, hx137_0, hx137_1, hl137_0, hi137_0⟩ := at_T62 HR0_1.out x20_1 p137 q137
                    cases e137
                    replace hx137_0 := (HB.out.cell (World.block_lt_of_cell? w _ hx137_0)).trans hx137_0
                    replace hx137_1 := (HB.out.cell (World.block_lt_of_cell? w _ hx137_1)).trans hx137_1
                    have HR137_0 := Aside0.mk hi137_0
                    have HC137_0 := Aside0.mk hl137_0
                    clear hi137_0 hl137_0
                    replace p137 := eq_true p137
                    replace q137 := eq_true q137
                    go_wp2_with (first | ((with_reducible refine gate_dst (N := 4) rfl ?_); refine box_event ?hg (N := 4) ?hd (cs := #[.slice none 0 0, .int .i64 0]) (t := 62) ?hr ?_; (case hd => rfl); (case hg => rfl); (case hr => first | (go_simp; done) | (go_simp; rfl)); intro gb138 hg w16 hbox hb; have n0_ := Aside0.mk (blk_below (g := gb135) (o := .cells #[.int .i64 a0_0, .slice (some ad137) l0_1.length c0_1] 52 (0, 0)) (by (with_reducible repeat (first | refine blk_drewN ?_ _ | refine blk_drew ?_ | refine blk_alloc ?_ _)); exact BK135.out) hb); have n1_ := Aside0.mk (below_step (by repeat (first | (with_reducible first | exact HB.out | apply below_alloc | apply pw_below_drewN | apply below_drew1 | refine below_set ?_ GE135.out) | exact HB.out)) hb); have n2_ := Aside0.mk (hbox); have n3_ := Aside0.mk ((by rw [hg]; exact (below_size (by repeat (first | (with_reducible first | exact HB.out | apply below_alloc | apply pw_below_drewN | apply below_drew1 | refine below_set ?_ GE135.out) | exact HB.out))) : w.heap.size ≤ gb138)); have n4_ := Aside0.mk ((by rw [hg]; exact (below_size (by repeat (first | (with_reducible first | exact HB.out | apply below_alloc | apply pw_below_drewN | apply below_drew1 | refine below_set ?_ GE135.out) | exact HB.out))) : w.heap.size ≤ gb138)); have n5_ := Aside0.mk ((by rw [hg]; exact Nat.ne_of_lt (blk_lt (g := gb135) (o := .cells #[.int .i64 a0_0, .slice (some ad137) l0_1.length c0_1] 52 (0, 0)) (by (with_reducible repeat (first | refine blk_drewN ?_ _ | refine blk_drew ?_ | refine blk_alloc ?_ _)); exact BK135.out)) : gb135 ≠ gb138)); have n6_ := Aside0.mk ((by rw [hg]; exact Nat.ne_of_gt (blk_lt (g := gb135) (o := .cells #[.int .i64 a0_0, .slice (some ad137) l0_1.length c0_1] 52 (0, 0)) (by (with_reducible repeat (first | refine blk_drewN ?_ _ | refine blk_drew ?_ | refine blk_alloc ?_ _)); exact BK135.out)) : gb138 ≠ gb135)); clear BK135; clear HB; have BK135 := n0_; have HB := n1_; have BK138 := n2_; have GW138 := n3_; have GE138 := n4_; have NB135_138 := n5_; have NB138_135 := n6_; clear n0_ n1_ n2_ n3_ n4_ n5_ n6_; clear hb hbox hg; have hnb17 := NB138_135.out; have hnc17 := NB135_138.out; have hcz18_0 : w16.cell? ⟨gb138, 0, none⟩ = some (.slice none 0 0) := (blk_cell BK138.out 0).trans rfl; have hcz18_1 : w16.cell? ⟨gb138, 1, none⟩ = some (.int .i64 0) := (blk_cell BK138.out 1).trans rfl; have hfz18_0 := blk_frozen BK138.out 0; have hfz18_1 := blk_frozen BK138.out 1; have hcz19_0 : w16.cell? ⟨gb135, 0, none⟩ = some (.int .i64 a0_0) := (blk_cell BK135.out 0).trans rfl; have hcz19_1 : w16.cell? ⟨gb135, 1, none⟩ = some (.slice (some ad137) l0_1.length c0_1) := (blk_cell BK135.out 1).trans rfl; have hfz19_0 := blk_frozen BK135.out 0; have hfz19_1 := blk_frozen BK135.out 1) | ((with_reducible refine gate_callee (f := 79) rfl ?_); refine goesL_ (some 29) rfl rfl Try.func79 (by kernel_rfl) rfl #[.int .i64 a0_0, .slice A137_0 ((rd_T62 l0_1 x20_1).f0).length c137_0] rfl (by (try simp only [List.map_toArray, List.map_cons, List.map_nil]); first | done | rfl | (simp only [List.length_drop, List.length_take]; rfl)) ?_; (with_reducible refine (pump_suspects.calls k1 a0_0 _ _ ((rd_T62 l0_1 x20_1).f0) t139 t140 _ ?side1 ?side2 A12.out).mono ?_); (case side1 => exact Kd.C_below HR137_0.out (by repeat (first | (with_reducible first | exact HB.out | apply below_alloc | apply pw_below_drewN | apply below_drew1 | refine below_set ?_ GE135.out | refine below_set ?_ GE138.out) | exact HB.out))); (case side2 => exact HC137_0.out); rintro e w' ⟨rfl, ⟨nd, rfl⟩⟩; refine ⟨_, rfl, ?_⟩) | ((with_reducible refine gate_callee (f := 86) rfl ?_); refine goesL_ (some 37) rfl rfl Try.func86 (by kernel_rfl) rfl #[.int .i64 ((rd_T62 l0_1 x20_1).f1), .int .i64 0, .int .i64 1000] rfl (by (try simp only [List.map_toArray, List.map_cons, List.map_nil]); first | done | rfl | (simp only [List.length_drop, List.length_take]; rfl)) ?_; (with_reducible refine (pump_from.calls ((rd_T62 l0_1 x20_1).f1) 0 1000 true _ A14.out).mono ?_); rintro e w' ⟨rfl, ⟨nd, rfl⟩⟩; refine ⟨_, rfl, ?_⟩))
                    go_roundg k1
                    case measure => have := HK1.out; omega
                    case rel => exact ⟨(wrap64 (x20_1 + 1)), (by first | rfl | (simp; done) | (simp [*]; done)), H', ⟨by have := HK1.out; omega⟩, ⟨by (with_reducible repeat (first | refine blk_drewN ?_ _ | refine blk_drew ?_ | refine blk_alloc ?_ _)); refine blk_far ?_ NB135_138.out _; (with_reducible repeat (first | refine blk_drewN ?_ _ | refine blk_drew ?_ | refine blk_alloc ?_ _)); refine blk_far ?_ NB135_138.out _; (with_reducible repeat (first | refine blk_drewN ?_ _ | refine blk_drew ?_ | refine blk_alloc ?_ _)); exact BK135.out⟩, ⟨by repeat (first | (with_reducible first | exact HB.out | apply below_alloc | apply pw_below_drewN | apply below_drew1 | refine below_set ?_ GE135.out | refine below_set ?_ GE138.out) | exact HB.out)⟩⟩
                  · replace c15 := Bool.eq_false_iff.mpr c15
                    subst c15
                    have H1 : (some 2) = some r := by rw [if_neg (show ¬ (false = true) by decide)] at H; exact H
                    clear H
                    have H := H1
                    clear H1
                    obtain rfl := Option.some.inj H
                    have p137 : 0 ≤ (x20_1 : Int) := of_decide_eq_true (by first | (with_reducible assumption) | assumption)
                    have q137 : x20_1 < (l0_1.length : Int) := of_decide_eq_true (by first | (with_reducible assumption) | assumption)
                    obtain ⟨ad137, A137_0, c137_0, e137, hx137_0, hx137_1, hl137_0, hi137_0⟩ := at_T62 HR0_1.out x20_1 p137 q137
                    cases e137
                    replace hx137_0 := (HB.out.cell (World.block_lt_of_cell? w _ hx137_0)).trans hx137_0
                    replace hx137_1 := (HB.out.cell (World.block_lt_of_cell? w _ hx137_1)).trans hx137_1
                    have HR137_0 := Aside0.mk hi137_0
                    have HC137_0 := Aside0.mk hl137_0
                    clear hi137_0 hl137_0
                    replace p137 := eq_true p137
                    replace q137 := eq_true q137
                    go_wp2_with (first | ((with_reducible refine gate_dst (N := 4) rfl ?_); refine box_event ?hg (N := 4) ?hd (cs := #[.slice none 0 0, .int .i64 0]) (t := 62) ?hr ?_; (case hd => rfl); (case hg => rfl); (case hr => first | (go_simp; done) | (go_simp; rfl)); intro gb138 hg w20 hbox hb; have n0_ := Aside0.mk (blk_below (g := gb135) (o := .cells #[.int .i64 a0_0, .slice (some ad137) l0_1.length c0_1] 52 (0, 0)) (by (with_reducible repeat (first | refine blk_drewN ?_ _ | refine blk_drew ?_ | refine blk_alloc ?_ _)); exact BK135.out) hb); have n1_ := Aside0.mk (below_step (by repeat (first | (with_reducible first | exact HB.out | apply below_alloc | apply pw_below_drewN | apply below_drew1 | refine below_set ?_ GE135.out) | exact HB.out)) hb); have n2_ := Aside0.mk (hbox); have n3_ := Aside0.mk ((by rw [hg]; exact (below_size (by repeat (first | (with_reducible first | exact HB.out | apply below_alloc | apply pw_below_drewN | apply below_drew1 | refine below_set ?_ GE135.out) | exact HB.out))) : w.heap.size ≤ gb138)); have n4_ := Aside0.mk ((by rw [hg]; exact (below_size (by repeat (first | (with_reducible first | exact HB.out | apply below_alloc | apply pw_below_drewN | apply below_drew1 | refine below_set ?_ GE135.out) | exact HB.out))) : w.heap.size ≤ gb138)); have n5_ := Aside0.mk ((by rw [hg]; exact Nat.ne_of_lt (blk_lt (g := gb135) (o := .cells #[.int .i64 a0_0, .slice (some ad137) l0_1.length c0_1] 52 (0, 0)) (by (with_reducible repeat (first | refine blk_drewN ?_ _ | refine blk_drew ?_ | refine blk_alloc ?_ _)); exact BK135.out)) : gb135 ≠ gb138)); have n6_ := Aside0.mk ((by rw [hg]; exact Nat.ne_of_gt (blk_lt (g := gb135) (o := .cells #[.int .i64 a0_0, .slice (some ad137) l0_1.length c0_1] 52 (0, 0)) (by (with_reducible repeat (first | refine blk_drewN ?_ _ | refine blk_drew ?_ | refine blk_alloc ?_ _)); exact BK135.out)) : gb138 ≠ gb135)); clear BK135; clear HB; have BK135 := n0_; have HB := n1_; have BK138 := n2_; have GW138 := n3_; have GE138 := n4_; have NB135_138 := n5_; have NB138_135 := n6_; clear n0_ n1_ n2_ n3_ n4_ n5_ n6_; clear hb hbox hg; have hnb21 := NB138_135.out; have hnc21 := NB135_138.out; have hcz22_0 : w20.cell? ⟨gb138, 0, none⟩ = some (.slice none 0 0) := (blk_cell BK138.out 0).trans rfl; have hcz22_1 : w20.cell? ⟨gb138, 1, none⟩ = some (.int .i64 0) := (blk_cell BK138.out 1).trans rfl; have hfz22_0 := blk_frozen BK138.out 0; have hfz22_1 := blk_frozen BK138.out 1; have hcz23_0 : w20.cell? ⟨gb135, 0, none⟩ = some (.int .i64 a0_0) := (blk_cell BK135.out 0).trans rfl; have hcz23_1 : w20.cell? ⟨gb135, 1, none⟩ = some (.slice (some ad137) l0_1.length c0_1) := (blk_cell BK135.out 1).trans rfl; have hfz23_0 := blk_frozen BK135.out 0; have hfz23_1 := blk_frozen BK135.out 1) | ((with_reducible refine gate_callee (f := 79) rfl ?_); refine goesL_ (some 29) rfl rfl Try.func79 (by kernel_rfl) rfl #[.int .i64 a0_0, .slice A137_0 ((rd_T62 l0_1 x20_1).f0).length c137_0] rfl (by (try simp only [List.map_toArray, List.map_cons, List.map_nil]); first | done | rfl | (simp only [List.length_drop, List.length_take]; rfl)) ?_; (with_reducible refine (pump_suspects.calls k1 a0_0 _ _ ((rd_T62 l0_1 x20_1).f0) t139 t140 _ ?side1 ?side2 A12.out).mono ?_); (case side1 => exact Kd.C_below HR137_0.out (by repeat (first | (with_reducible first | exact HB.out | apply below_alloc | apply pw_below_drewN | apply below_drew1 | refine below_set ?_ GE135.out | refine below_set ?_ GE138.out) | exact HB.out))); (case side2 => exact HC137_0.out); rintro e w' ⟨rfl, ⟨nd, rfl⟩⟩; refine ⟨_, rfl, ?_⟩) | ((with_reducible refine gate_callee (f := 86) rfl ?_); refine goesL_ (some 37) rfl rfl Try.func86 (by kernel_rfl) rfl #[.int .i64 ((rd_T62 l0_1 x20_1).f1), .int .i64 0, .int .i64 1000] rfl (by (try simp only [List.map_toArray, List.map_cons, List.map_nil]); first | done | rfl | (simp only [List.length_drop, List.length_take]; rfl)) ?_; (with_reducible refine (pump_from.calls ((rd_T62 l0_1 x20_1).f1) 0 1000 false _ A14.out).mono ?_); rintro e w' ⟨rfl, ⟨nd, rfl⟩⟩; refine ⟨_, rfl, ?_⟩))
                    go_ret
                    exact ⟨by first | rfl | (simp [errW_none, errW_some] <;> rfl) | (simp [*, errW_none, errW_some] <;> rfl), by repeat (first | (with_reducible first | exact HB.out | apply below_alloc | apply pw_below_drewN | apply below_drew1 | refine below_set ?_ GE135.out | refine below_set ?_ GE138.out) | exact HB.out)⟩
                · rw [if_neg c13] at H
                  have c13b0 : (t140 == 0) = false := beq_eq_false_iff_ne.mpr c13
                  have c13b1 : (t140 != 0) = true := bne_iff_ne.mpr c13
                  obtain rfl := Option.some.inj H
                  have p137 : 0 ≤ (x20_1 : Int) := of_decide_eq_true (by first | (with_reducible assumption) | assumption)
                  have q137 : x20_1 < (l0_1.length : Int) := of_decide_eq_true (by first | (with_reducible assumption) | assumption)
                  obtain ⟨ad137, A137_0, c137_0, e137, hx137_0, hx137_1, hl137_0, hi137_0⟩ := at_T62 HR0_1.out x20_1 p137 q137
                  cases e137
                  replace hx137_0 := (HB.out.cell (World.block_lt_of_cell? w _ hx137_0)).trans hx137_0
                  replace hx137_1 := (HB.out.cell (World.block_lt_of_cell? w _ hx137_1)).trans hx137_1
                  have HR137_0 := Aside0.mk hi137_0
                  have HC137_0 := Aside0.mk hl137_0
                  clear hi137_0 hl137_0
                  replace p137 := eq_true p137
                  replace q137 := eq_true q137
                  go_wp2_with (first | ((with_reducible refine gate_dst (N := 4) rfl ?_); refine box_event ?hg (N := 4) ?hd (cs := #[.slice none 0 0, .int .i64 0]) (t := 62) ?hr ?_; (case hd => rfl); (case hg => rfl); (case hr => first | (go_simp; done) | (go_simp; rfl)); intro gb138 hg w24 hbox hb; have n0_ := Aside0.mk (blk_below (g := gb135) (o := .cells #[.int .i64 a0_0, .slice (some ad137) l0_1.length c0_1] 52 (0, 0)) (by (with_reducible repeat (first | refine blk_drewN ?_ _ | refine blk_drew ?_ | refine blk_alloc ?_ _)); exact BK135.out) hb); have n1_ := Aside0.mk (below_step (by repeat (first | (with_reducible first | exact HB.out | apply below_alloc | apply pw_below_drewN | apply below_drew1 | refine below_set ?_ GE135.out) | exact HB.out)) hb); have n2_ := Aside0.mk (hbox); have n3_ := Aside0.mk ((by rw [hg]; exact (below_size (by repeat (first | (with_reducible first | exact HB.out | apply below_alloc | apply pw_below_drewN | apply below_drew1 | refine below_set ?_ GE135.out) | exact HB.out))) : w.heap.size ≤ gb138)); have n4_ := Aside0.mk ((by rw [hg]; exact (below_size (by repeat (first | (with_reducible first | exact HB.out | apply below_alloc | apply pw_below_drewN | apply below_drew1 | refine below_set ?_ GE135.out) | exact HB.out))) : w.heap.size ≤ gb138)); have n5_ := Aside0.mk ((by rw [hg]; exact Nat.ne_of_lt (blk_lt (g := gb135) (o := .cells #[.int .i64 a0_0, .slice (some ad137) l0_1.length c0_1] 52 (0, 0)) (by (with_reducible repeat (first | refine blk_drewN ?_ _ | refine blk_drew ?_ | refine blk_alloc ?_ _)); exact BK135.out)) : gb135 ≠ gb138)); have n6_ := Aside0.mk ((by rw [hg]; exact Nat.ne_of_gt (blk_lt (g := gb135) (o := .cells #[.int .i64 a0_0, .slice (some ad137) l0_1.length c0_1] 52 (0, 0)) (by (with_reducible repeat (first | refine blk_drewN ?_ _ | refine blk_drew ?_ | refine blk_alloc ?_ _)); exact BK135.out)) : gb138 ≠ gb135)); clear BK135; clear HB; have BK135 := n0_; have HB := n1_; have BK138 := n2_; have GW138 := n3_; have GE138 := n4_; have NB135_138 := n5_; have NB138_135 := n6_; clear n0_ n1_ n2_ n3_ n4_ n5_ n6_; clear hb hbox hg; have hnb25 := NB138_135.out; have hnc25 := NB135_138.out; have hcz26_0 : w24.cell? ⟨gb138, 0, none⟩ = some (.slice none 0 0) := (blk_cell BK138.out 0).trans rfl; have hcz26_1 : w24.cell? ⟨gb138, 1, none⟩ = some (.int .i64 0) := (blk_cell BK138.out 1).trans rfl; have hfz26_0 := blk_frozen BK138.out 0; have hfz26_1 := blk_frozen BK138.out 1; have hcz27_0 : w24.cell? ⟨gb135, 0, none⟩ = some (.int .i64 a0_0) := (blk_cell BK135.out 0).trans rfl; have hcz27_1 : w24.cell? ⟨gb135, 1, none⟩ = some (.slice (some ad137) l0_1.length c0_1) := (blk_cell BK135.out 1).trans rfl; have hfz27_0 := blk_frozen BK135.out 0; have hfz27_1 := blk_frozen BK135.out 1) | ((with_reducible refine gate_callee (f := 79) rfl ?_); refine goesL_ (some 29) rfl rfl Try.func79 (by kernel_rfl) rfl #[.int .i64 a0_0, .slice A137_0 ((rd_T62 l0_1 x20_1).f0).length c137_0] rfl (by (try simp only [List.map_toArray, List.map_cons, List.map_nil]); first | done | rfl | (simp only [List.length_drop, List.length_take]; rfl)) ?_; (with_reducible refine (pump_suspects.calls k1 a0_0 _ _ ((rd_T62 l0_1 x20_1).f0) t139 t140 _ ?side1 ?side2 A12.out).mono ?_); (case side1 => exact Kd.C_below HR137_0.out (by repeat (first | (with_reducible first | exact HB.out | apply below_alloc | apply pw_below_drewN | apply below_drew1 | refine below_set ?_ GE135.out | refine below_set ?_ GE138.out) | exact HB.out))); (case side2 => exact HC137_0.out); rintro e w' ⟨rfl, ⟨nd, rfl⟩⟩; refine ⟨_, rfl, ?_⟩))
                  go_ret
                  exact ⟨by first | rfl | (simp [errW_none, errW_some] <;> rfl) | (simp [*, errW_none, errW_some] <;> rfl), by repeat (first | (with_reducible first | exact HB.out | apply below_alloc | apply pw_below_drewN | apply below_drew1 | refine below_set ?_ GE135.out | refine below_set ?_ GE138.out) | exact HB.out)⟩
              · rw [if_neg c11] at H
                exact absurd H (by simp)
            · rw [if_neg c10] at H
              exact absurd H (by simp)
          · rw [if_neg c9] at H
            have c9b0 : decide (x20_1 < (l0_1.length : Int)) = false := decide_eq_false c9
            clear c9
            obtain rfl := Option.some.inj H
            go_wp2
            go_ret
            exact ⟨by first | rfl | (simp [errW_none, errW_some] <;> rfl) | (simp [*, errW_none, errW_some] <;> rfl), by repeat (first | (with_reducible first | exact HB.out | apply below_alloc | apply pw_below_drewN | apply below_drew1 | refine below_set ?_ GE135.out) | exact HB.out)⟩
  · replace c3 := Bool.eq_false_iff.mpr c3
    subst c3
    have H1 : (some 2) = some r := by rw [if_neg (show ¬ (false = true) by decide)] at H; exact H
    clear H
    have H := H1
    clear H1
    obtain rfl := Option.some.inj H
    go_enter Try.func46, Try.ntmps46
    go_wp2_with (first | ((with_reducible refine gate_dst (N := 1) rfl ?_); refine box_event ?hg (N := 1) ?hd (cs := #[.int .i64 a0_0, .slice A0_1 l0_1.length c0_1]) (t := 52) ?hr ?_; (case hd => rfl); (case hg => rfl); (case hr => first | (go_simp; done) | (go_simp; rfl)); intro gb135 hg w28 hbox hb; have n0_ := Aside0.mk (below_step (by repeat (first | (with_reducible first | exact HB.out | apply below_alloc | apply pw_below_drewN | apply below_drew1) | exact HB.out)) hb); have n1_ := Aside0.mk (hbox); have n2_ := Aside0.mk ((by rw [hg]; exact (below_size (by repeat (first | (with_reducible first | exact HB.out | apply below_alloc | apply pw_below_drewN | apply below_drew1) | exact HB.out))) : w.heap.size ≤ gb135)); have n3_ := Aside0.mk ((by rw [hg]; exact (below_size (by repeat (first | (with_reducible first | exact HB.out | apply below_alloc | apply pw_below_drewN | apply below_drew1) | exact HB.out))) : w.heap.size ≤ gb135)); clear HB; have HB := n0_; have BK135 := n1_; have GW135 := n2_; have GE135 := n3_; clear n0_ n1_ n2_ n3_; clear hb hbox hg; have hcz29_0 : w28.cell? ⟨gb135, 0, none⟩ = some (.int .i64 a0_0) := (blk_cell BK135.out 0).trans rfl; have hcz29_1 : w28.cell? ⟨gb135, 1, none⟩ = some (.slice A0_1 l0_1.length c0_1) := (blk_cell BK135.out 1).trans rfl; have hfz29_0 := blk_frozen BK135.out 0; have hfz29_1 := blk_frozen BK135.out 1) | ((with_reducible refine gate_callee (f := 86) rfl ?_); refine goesL_ (some 10) rfl rfl Try.func86 (by kernel_rfl) rfl #[.int .i64 a0_0, .int .i64 1, .int .i64 12] rfl (by (try simp only [List.map_toArray, List.map_cons, List.map_nil]); first | done | rfl | (simp only [List.length_drop, List.length_take]; rfl)) ?_; (with_reducible refine (pump_from.calls a0_0 1 12 false _ A2.out).mono ?_); rintro e w' ⟨rfl, ⟨nd, rfl⟩⟩; refine ⟨_, rfl, ?_⟩))
    go_ret
    exact ⟨by first | rfl | (simp [errW_none, errW_some] <;> rfl) | (simp [*, errW_none, errW_some] <;> rfl), by repeat (first | (with_reducible first | exact HB.out | apply below_alloc | apply pw_below_drewN | apply below_drew1 | refine below_set ?_ GE135.out) | exact HB.out)⟩
def bits_OnesCount64.f (a0 : Int) : Option (Int) := some (Go.bits .and .i64 (wrap64 (IntKind.u64.wrap ((IntKind.u64.wrap ((IntKind.u64.wrap ((Go.bits .and .u64 (IntKind.u64.wrap (((IntKind.u64.wrap ((Go.bits .and .u64 ((IntKind.u64.wrap ((Go.bits .and .u64 (a0 / 2) 6148914691236517205) + (Go.bits .and .u64 a0 6148914691236517205))) / 4) 3689348814741910323) + (Go.bits .and .u64 (IntKind.u64.wrap ((Go.bits .and .u64 (a0 / 2) 6148914691236517205) + (Go.bits .and .u64 a0 6148914691236517205))) 3689348814741910323))) / 16) + (IntKind.u64.wrap ((Go.bits .and .u64 ((IntKind.u64.wrap ((Go.bits .and .u64 (a0 / 2) 6148914691236517205) + (Go.bits .and .u64 a0 6148914691236517205))) / 4) 3689348814741910323) + (Go.bits .and .u64 (IntKind.u64.wrap ((Go.bits .and .u64 (a0 / 2) 6148914691236517205) + (Go.bits .and .u64 a0 6148914691236517205))) 3689348814741910323))))) 1085102592571150095) + ((Go.bits .and .u64 (IntKind.u64.wrap (((IntKind.u64.wrap ((Go.bits .and .u64 ((IntKind.u64.wrap ((Go.bits .and .u64 (a0 / 2) 6148914691236517205) + (Go.bits .and .u64 a0 6148914691236517205))) / 4) 3689348814741910323) + (Go.bits .and .u64 (IntKind.u64.wrap ((Go.bits .and .u64 (a0 / 2) 6148914691236517205) + (Go.bits .and .u64 a0 6148914691236517205))) 3689348814741910323))) / 16) + (IntKind.u64.wrap ((Go.bits .and .u64 ((IntKind.u64.wrap ((Go.bits .and .u64 (a0 / 2) 6148914691236517205) + (Go.bits .and .u64 a0 6148914691236517205))) / 4) 3689348814741910323) + (Go.bits .and .u64 (IntKind.u64.wrap ((Go.bits .and .u64 (a0 / 2) 6148914691236517205) + (Go.bits .and .u64 a0 6148914691236517205))) 3689348814741910323))))) 1085102592571150095) / 256))) + ((IntKind.u64.wrap ((Go.bits .and .u64 (IntKind.u64.wrap (((IntKind.u64.wrap ((Go.bits .and .u64 ((IntKind.u64.wrap ((Go.bits .and .u64 (a0 / 2) 6148914691236517205) + (Go.bits .and .u64 a0 6148914691236517205))) / 4) 3689348814741910323) + (Go.bits .and .u64 (IntKind.u64.wrap ((Go.bits .and .u64 (a0 / 2) 6148914691236517205) + (Go.bits .and .u64 a0 6148914691236517205))) 3689348814741910323))) / 16) + (IntKind.u64.wrap ((Go.bits .and .u64 ((IntKind.u64.wrap ((Go.bits .and .u64 (a0 / 2) 6148914691236517205) + (Go.bits .and .u64 a0 6148914691236517205))) / 4) 3689348814741910323) + (Go.bits .and .u64 (IntKind.u64.wrap ((Go.bits .and .u64 (a0 / 2) 6148914691236517205) + (Go.bits .and .u64 a0 6148914691236517205))) 3689348814741910323))))) 1085102592571150095) + ((Go.bits .and .u64 (IntKind.u64.wrap (((IntKind.u64.wrap ((Go.bits .and .u64 ((IntKind.u64.wrap ((Go.bits .and .u64 (a0 / 2) 6148914691236517205) + (Go.bits .and .u64 a0 6148914691236517205))) / 4) 3689348814741910323) + (Go.bits .and .u64 (IntKind.u64.wrap ((Go.bits .and .u64 (a0 / 2) 6148914691236517205) + (Go.bits .and .u64 a0 6148914691236517205))) 3689348814741910323))) / 16) + (IntKind.u64.wrap ((Go.bits .and .u64 ((IntKind.u64.wrap ((Go.bits .and .u64 (a0 / 2) 6148914691236517205) + (Go.bits .and .u64 a0 6148914691236517205))) / 4) 3689348814741910323) + (Go.bits .and .u64 (IntKind.u64.wrap ((Go.bits .and .u64 (a0 / 2) 6148914691236517205) + (Go.bits .and .u64 a0 6148914691236517205))) 3689348814741910323))))) 1085102592571150095) / 256))) / 65536))) + ((IntKind.u64.wrap ((IntKind.u64.wrap ((Go.bits .and .u64 (IntKind.u64.wrap (((IntKind.u64.wrap ((Go.bits .and .u64 ((IntKind.u64.wrap ((Go.bits .and .u64 (a0 / 2) 6148914691236517205) + (Go.bits .and .u64 a0 6148914691236517205))) / 4) 3689348814741910323) + (Go.bits .and .u64 (IntKind.u64.wrap ((Go.bits .and .u64 (a0 / 2) 6148914691236517205) + (Go.bits .and .u64 a0 6148914691236517205))) 3689348814741910323))) / 16) + (IntKind.u64.wrap ((Go.bits .and .u64 ((IntKind.u64.wrap ((Go.bits .and .u64 (a0 / 2) 6148914691236517205) + (Go.bits .and .u64 a0 6148914691236517205))) / 4) 3689348814741910323) + (Go.bits .and .u64 (IntKind.u64.wrap ((Go.bits .and .u64 (a0 / 2) 6148914691236517205) + (Go.bits .and .u64 a0 6148914691236517205))) 3689348814741910323))))) 1085102592571150095) + ((Go.bits .and .u64 (IntKind.u64.wrap (((IntKind.u64.wrap ((Go.bits .and .u64 ((IntKind.u64.wrap ((Go.bits .and .u64 (a0 / 2) 6148914691236517205) + (Go.bits .and .u64 a0 6148914691236517205))) / 4) 3689348814741910323) + (Go.bits .and .u64 (IntKind.u64.wrap ((Go.bits .and .u64 (a0 / 2) 6148914691236517205) + (Go.bits .and .u64 a0 6148914691236517205))) 3689348814741910323))) / 16) + (IntKind.u64.wrap ((Go.bits .and .u64 ((IntKind.u64.wrap ((Go.bits .and .u64 (a0 / 2) 6148914691236517205) + (Go.bits .and .u64 a0 6148914691236517205))) / 4) 3689348814741910323) + (Go.bits .and .u64 (IntKind.u64.wrap ((Go.bits .and .u64 (a0 / 2) 6148914691236517205) + (Go.bits .and .u64 a0 6148914691236517205))) 3689348814741910323))))) 1085102592571150095) / 256))) + ((IntKind.u64.wrap ((Go.bits .and .u64 (IntKind.u64.wrap (((IntKind.u64.wrap ((Go.bits .and .u64 ((IntKind.u64.wrap ((Go.bits .and .u64 (a0 / 2) 6148914691236517205) + (Go.bits .and .u64 a0 6148914691236517205))) / 4) 3689348814741910323) + (Go.bits .and .u64 (IntKind.u64.wrap ((Go.bits .and .u64 (a0 / 2) 6148914691236517205) + (Go.bits .and .u64 a0 6148914691236517205))) 3689348814741910323))) / 16) + (IntKind.u64.wrap ((Go.bits .and .u64 ((IntKind.u64.wrap ((Go.bits .and .u64 (a0 / 2) 6148914691236517205) + (Go.bits .and .u64 a0 6148914691236517205))) / 4) 3689348814741910323) + (Go.bits .and .u64 (IntKind.u64.wrap ((Go.bits .and .u64 (a0 / 2) 6148914691236517205) + (Go.bits .and .u64 a0 6148914691236517205))) 3689348814741910323))))) 1085102592571150095) + ((Go.bits .and .u64 (IntKind.u64.wrap (((IntKind.u64.wrap ((Go.bits .and .u64 ((IntKind.u64.wrap ((Go.bits .and .u64 (a0 / 2) 6148914691236517205) + (Go.bits .and .u64 a0 6148914691236517205))) / 4) 3689348814741910323) + (Go.bits .and .u64 (IntKind.u64.wrap ((Go.bits .and .u64 (a0 / 2) 6148914691236517205) + (Go.bits .and .u64 a0 6148914691236517205))) 3689348814741910323))) / 16) + (IntKind.u64.wrap ((Go.bits .and .u64 ((IntKind.u64.wrap ((Go.bits .and .u64 (a0 / 2) 6148914691236517205) + (Go.bits .and .u64 a0 6148914691236517205))) / 4) 3689348814741910323) + (Go.bits .and .u64 (IntKind.u64.wrap ((Go.bits .and .u64 (a0 / 2) 6148914691236517205) + (Go.bits .and .u64 a0 6148914691236517205))) 3689348814741910323))))) 1085102592571150095) / 256))) / 65536))) / 4294967296)))) 127)
set_option maxHeartbeats 8000000 in
set_option maxRecDepth 100000 in
theorem bits_OnesCount64.calls (a0 : Int) (r : Int) (w : World) (h : bits_OnesCount64.f a0 = some r) :
    Calls Try.prog 134 #[.int .u64 a0] w fun e w' => e = .returned (.int .i64 r) ∧ Drawn0 w w' := by
  have H : (some (Go.bits .and .i64 (wrap64 (IntKind.u64.wrap ((IntKind.u64.wrap ((IntKind.u64.wrap ((Go.bits .and .u64 (IntKind.u64.wrap (((IntKind.u64.wrap ((Go.bits .and .u64 ((IntKind.u64.wrap ((Go.bits .and .u64 (a0 / 2) 6148914691236517205) + (Go.bits .and .u64 a0 6148914691236517205))) / 4) 3689348814741910323) + (Go.bits .and .u64 (IntKind.u64.wrap ((Go.bits .and .u64 (a0 / 2) 6148914691236517205) + (Go.bits .and .u64 a0 6148914691236517205))) 3689348814741910323))) / 16) + (IntKind.u64.wrap ((Go.bits .and .u64 ((IntKind.u64.wrap ((Go.bits .and .u64 (a0 / 2) 6148914691236517205) + (Go.bits .and .u64 a0 6148914691236517205))) / 4) 3689348814741910323) + (Go.bits .and .u64 (IntKind.u64.wrap ((Go.bits .and .u64 (a0 / 2) 6148914691236517205) + (Go.bits .and .u64 a0 6148914691236517205))) 3689348814741910323))))) 1085102592571150095) + ((Go.bits .and .u64 (IntKind.u64.wrap (((IntKind.u64.wrap ((Go.bits .and .u64 ((IntKind.u64.wrap ((Go.bits .and .u64 (a0 / 2) 6148914691236517205) + (Go.bits .and .u64 a0 6148914691236517205))) / 4) 3689348814741910323) + (Go.bits .and .u64 (IntKind.u64.wrap ((Go.bits .and .u64 (a0 / 2) 6148914691236517205) + (Go.bits .and .u64 a0 6148914691236517205))) 3689348814741910323))) / 16) + (IntKind.u64.wrap ((Go.bits .and .u64 ((IntKind.u64.wrap ((Go.bits .and .u64 (a0 / 2) 6148914691236517205) + (Go.bits .and .u64 a0 6148914691236517205))) / 4) 3689348814741910323) + (Go.bits .and .u64 (IntKind.u64.wrap ((Go.bits .and .u64 (a0 / 2) 6148914691236517205) + (Go.bits .and .u64 a0 6148914691236517205))) 3689348814741910323))))) 1085102592571150095) / 256))) + ((IntKind.u64.wrap ((Go.bits .and .u64 (IntKind.u64.wrap (((IntKind.u64.wrap ((Go.bits .and .u64 ((IntKind.u64.wrap ((Go.bits .and .u64 (a0 / 2) 6148914691236517205) + (Go.bits .and .u64 a0 6148914691236517205))) / 4) 3689348814741910323) + (Go.bits .and .u64 (IntKind.u64.wrap ((Go.bits .and .u64 (a0 / 2) 6148914691236517205) + (Go.bits .and .u64 a0 6148914691236517205))) 3689348814741910323))) / 16) + (IntKind.u64.wrap ((Go.bits .and .u64 ((IntKind.u64.wrap ((Go.bits .and .u64 (a0 / 2) 6148914691236517205) + (Go.bits .and .u64 a0 6148914691236517205))) / 4) 3689348814741910323) + (Go.bits .and .u64 (IntKind.u64.wrap ((Go.bits .and .u64 (a0 / 2) 6148914691236517205) + (Go.bits .and .u64 a0 6148914691236517205))) 3689348814741910323))))) 1085102592571150095) + ((Go.bits .and .u64 (IntKind.u64.wrap (((IntKind.u64.wrap ((Go.bits .and .u64 ((IntKind.u64.wrap ((Go.bits .and .u64 (a0 / 2) 6148914691236517205) + (Go.bits .and .u64 a0 6148914691236517205))) / 4) 3689348814741910323) + (Go.bits .and .u64 (IntKind.u64.wrap ((Go.bits .and .u64 (a0 / 2) 6148914691236517205) + (Go.bits .and .u64 a0 6148914691236517205))) 3689348814741910323))) / 16) + (IntKind.u64.wrap ((Go.bits .and .u64 ((IntKind.u64.wrap ((Go.bits .and .u64 (a0 / 2) 6148914691236517205) + (Go.bits .and .u64 a0 6148914691236517205))) / 4) 3689348814741910323) + (Go.bits .and .u64 (IntKind.u64.wrap ((Go.bits .and .u64 (a0 / 2) 6148914691236517205) + (Go.bits .and .u64 a0 6148914691236517205))) 3689348814741910323))))) 1085102592571150095) / 256))) / 65536))) + ((IntKind.u64.wrap ((IntKind.u64.wrap ((Go.bits .and .u64 (IntKind.u64.wrap (((IntKind.u64.wrap ((Go.bits .and .u64 ((IntKind.u64.wrap ((Go.bits .and .u64 (a0 / 2) 6148914691236517205) + (Go.bits .and .u64 a0 6148914691236517205))) / 4) 3689348814741910323) + (Go.bits .and .u64 (IntKind.u64.wrap ((Go.bits .and .u64 (a0 / 2) 6148914691236517205) + (Go.bits .and .u64 a0 6148914691236517205))) 3689348814741910323))) / 16) + (IntKind.u64.wrap ((Go.bits .and .u64 ((IntKind.u64.wrap ((Go.bits .and .u64 (a0 / 2) 6148914691236517205) + (Go.bits .and .u64 a0 6148914691236517205))) / 4) 3689348814741910323) + (Go.bits .and .u64 (IntKind.u64.wrap ((Go.bits .and .u64 (a0 / 2) 6148914691236517205) + (Go.bits .and .u64 a0 6148914691236517205))) 3689348814741910323))))) 1085102592571150095) + ((Go.bits .and .u64 (IntKind.u64.wrap (((IntKind.u64.wrap ((Go.bits .and .u64 ((IntKind.u64.wrap ((Go.bits .and .u64 (a0 / 2) 6148914691236517205) + (Go.bits .and .u64 a0 6148914691236517205))) / 4) 3689348814741910323) + (Go.bits .and .u64 (IntKind.u64.wrap ((Go.bits .and .u64 (a0 / 2) 6148914691236517205) + (Go.bits .and .u64 a0 6148914691236517205))) 3689348814741910323))) / 16) + (IntKind.u64.wrap ((Go.bits .and .u64 ((IntKind.u64.wrap ((Go.bits .and .u64 (a0 / 2) 6148914691236517205) + (Go.bits .and .u64 a0 6148914691236517205))) / 4) 3689348814741910323) + (Go.bits .and .u64 (IntKind.u64.wrap ((Go.bits .and .u64 (a0 / 2) 6148914691236517205) + (Go.bits .and .u64 a0 6148914691236517205))) 3689348814741910323))))) 1085102592571150095) / 256))) + ((IntKind.u64.wrap ((Go.bits .and .u64 (IntKind.u64.wrap (((IntKind.u64.wrap ((Go.bits .and .u64 ((IntKind.u64.wrap ((Go.bits .and .u64 (a0 / 2) 6148914691236517205) + (Go.bits .and .u64 a0 6148914691236517205))) / 4) 3689348814741910323) + (Go.bits .and .u64 (IntKind.u64.wrap ((Go.bits .and .u64 (a0 / 2) 6148914691236517205) + (Go.bits .and .u64 a0 6148914691236517205))) 3689348814741910323))) / 16) + (IntKind.u64.wrap ((Go.bits .and .u64 ((IntKind.u64.wrap ((Go.bits .and .u64 (a0 / 2) 6148914691236517205) + (Go.bits .and .u64 a0 6148914691236517205))) / 4) 3689348814741910323) + (Go.bits .and .u64 (IntKind.u64.wrap ((Go.bits .and .u64 (a0 / 2) 6148914691236517205) + (Go.bits .and .u64 a0 6148914691236517205))) 3689348814741910323))))) 1085102592571150095) + ((Go.bits .and .u64 (IntKind.u64.wrap (((IntKind.u64.wrap ((Go.bits .and .u64 ((IntKind.u64.wrap ((Go.bits .and .u64 (a0 / 2) 6148914691236517205) + (Go.bits .and .u64 a0 6148914691236517205))) / 4) 3689348814741910323) + (Go.bits .and .u64 (IntKind.u64.wrap ((Go.bits .and .u64 (a0 / 2) 6148914691236517205) + (Go.bits .and .u64 a0 6148914691236517205))) 3689348814741910323))) / 16) + (IntKind.u64.wrap ((Go.bits .and .u64 ((IntKind.u64.wrap ((Go.bits .and .u64 (a0 / 2) 6148914691236517205) + (Go.bits .and .u64 a0 6148914691236517205))) / 4) 3689348814741910323) + (Go.bits .and .u64 (IntKind.u64.wrap ((Go.bits .and .u64 (a0 / 2) 6148914691236517205) + (Go.bits .and .u64 a0 6148914691236517205))) 3689348814741910323))))) 1085102592571150095) / 256))) / 65536))) / 4294967296)))) 127)) = some r := h
  clear h
  obtain rfl := Option.some.inj H
  go_enter Try.func134, Try.ntmps134
  go_wp2
  go_ret
  exact ⟨by first | rfl | (simp; done) | (simp [*]; done), by repeat (first | exact Drawn0.refl _ | apply Drawn0.step)⟩
def bits_OnesCount.f (a0 : Int) : Option (Int) := (bits_OnesCount64.f a0).bind fun t142 => (some t142)
set_option maxHeartbeats 8000000 in
set_option maxRecDepth 100000 in
theorem bits_OnesCount.calls (a0 : Int) (r : Int) (w : World) (h : bits_OnesCount.f a0 = some r) :
    Calls Try.prog 108 #[.int .u64 a0] w fun e w' => e = .returned (.int .i64 r) ∧ Drawn0 w w' := by
  have H : ((bits_OnesCount64.f a0).bind fun t142 => (some t142)) = some r := h
  clear h
  replace H := Option.bind_eq_some_iff.mp H
  obtain ⟨t142, A20, H⟩ := H
  replace H : (some t142) = some r := H
  have A2 := Aside0.mk A20
  clear A20
  obtain rfl := Option.some.inj H
  go_enter Try.func108, Try.ntmps108
  go_wp2_with (first | ((with_reducible refine gate_callee (f := 134) rfl ?_); refine goesL_ (some 7) rfl rfl Try.func134 (by kernel_rfl) rfl #[.int .u64 a0] rfl (by (try simp only [List.map_toArray, List.map_cons, List.map_nil]); first | done | rfl | (simp only [List.length_drop, List.length_take]; rfl)) ?_; (with_reducible refine (bits_OnesCount64.calls a0 t142 _ A2.out).mono ?_); rintro e w' ⟨rfl, ⟨nd, rfl⟩⟩; refine ⟨_, rfl, ?_⟩))
  go_ret
  exact ⟨by first | rfl | (simp; done) | (simp [*]; done), by repeat (first | exact Drawn0.refl _ | apply Drawn0.step)⟩
def thermionlaw06_row.f  : Option (Int × (List (S62))) := some (4, (([(⟨(([0] : List Int)), 1⟩ : S62), (⟨(([0, 1] : List Int)), 1⟩ : S62), (⟨(([0, 1, 2] : List Int)), 1⟩ : S62)] : List (S62))))
set_option maxHeartbeats 8000000 in
set_option maxRecDepth 100000 in
theorem thermionlaw06_row.calls  (r1 : Int) (r2 : List (S62)) (w : World) (h : thermionlaw06_row.f  = some (r1, r2)) :
    Calls Try.prog 75 #[] w fun e w' => ∃ v1_ : Value, e = .returned (.agg #[.int .i64 r1, v1_]) ∧ Kd.N k62 62 w' w.heap.size (fun k_ => (w.heap.size ≤ k_)) v1_ r2 ∧ Below w.heap.size w w' := by
  have hu52 := Try.underlying52
  have hu62 := Try.underlying62
  have HB := Aside0.mk (Below.refl w.heap.size w)
  have H : (some (4, (([(⟨(([0] : List Int)), 1⟩ : S62), (⟨(([0, 1] : List Int)), 1⟩ : S62), (⟨(([0, 1, 2] : List Int)), 1⟩ : S62)] : List (S62))))) = some (r1, r2) := h
  clear h
  obtain ⟨y144, hy144⟩ : ∃ y_ : List Int, y_ = (([0] : List Int)) := ⟨_, rfl⟩
  replace H : (some (4, (([(⟨y144, 1⟩ : S62), (⟨(([0, 1] : List Int)), 1⟩ : S62), (⟨(([0, 1, 2] : List Int)), 1⟩ : S62)] : List (S62))))) = some (r1, r2) := by first | (rw [hy144]; with_reducible exact H) | (have H2_ := (Option.bind_some _ _).symm.trans H; rw [hy144]; with_reducible exact H2_) | (have H2_ := (Option.bind_some _ _).symm.trans H; with_reducible exact H2_) | with_reducible exact H | (rw [hy144]; exact H) | exact H
  have Ny144 := Aside0.mk hy144
  clear hy144
  obtain ⟨y147, hy147⟩ : ∃ y_ : List Int, y_ = (([0, 1] : List Int)) := ⟨_, rfl⟩
  replace H : (some (4, (([(⟨y144, 1⟩ : S62), (⟨y147, 1⟩ : S62), (⟨(([0, 1, 2] : List Int)), 1⟩ : S62)] : List (S62))))) = some (r1, r2) := by first | (rw [hy147]; with_reducible exact H) | (have H2_ := (Option.bind_some _ _).symm.trans H; rw [hy147]; with_reducible exact H2_) | (have H2_ := (Option.bind_some _ _).symm.trans H; with_reducible exact H2_) | with_reducible exact H | (rw [hy147]; exact H) | exact H
  have Ny147 := Aside0.mk hy147
  clear hy147
  obtain ⟨y150, hy150⟩ : ∃ y_ : List Int, y_ = (([0, 1, 2] : List Int)) := ⟨_, rfl⟩
  replace H : (some (4, (([(⟨y144, 1⟩ : S62), (⟨y147, 1⟩ : S62), (⟨y150, 1⟩ : S62)] : List (S62))))) = some (r1, r2) := by first | (rw [hy150]; with_reducible exact H) | (have H2_ := (Option.bind_some _ _).symm.trans H; rw [hy150]; with_reducible exact H2_) | (have H2_ := (Option.bind_some _ _).symm.trans H; with_reducible exact H2_) | with_reducible exact H | (rw [hy150]; exact H) | exact H
  have Ny150 := Aside0.mk hy150
  clear hy150
  obtain ⟨y153, hy153⟩ : ∃ y_ : List (S62), y_ = (([(⟨y144, 1⟩ : S62), (⟨y147, 1⟩ : S62), (⟨y150, 1⟩ : S62)] : List (S62))) := ⟨_, rfl⟩
  replace H : (some (4, y153)) = some (r1, r2) := by first | (rw [hy153]; with_reducible exact H) | (have H2_ := (Option.bind_some _ _).symm.trans H; rw [hy153]; with_reducible exact H2_) | (have H2_ := (Option.bind_some _ _).symm.trans H; with_reducible exact H2_) | with_reducible exact H | (rw [hy153]; exact H) | exact H
  have Ny153 := Aside0.mk hy153
  clear hy153
  simp only [Option.some.injEq, Prod.mk.injEq] at H
  obtain ⟨rfl, rfl⟩ := H
  go_enter Try.func75, Try.ntmps75
  go_wp2_with (first | ((with_reducible refine gate_dst (N := 0) rfl ?_); refine box_event ?hg (N := 0) ?hd (cs := #[.int .i64 0, .slice none 0 0]) (t := 52) ?hr ?_; (case hd => rfl); (case hg => rfl); (case hr => first | (go_simp; done) | (go_simp; rfl)); intro gb143 hg w1 hbox hb; have n0_ := Aside0.mk (below_step (by repeat (first | (with_reducible first | exact HB.out | apply below_alloc | apply pw_below_drewN | apply below_drew1) | exact HB.out)) hb); have n1_ := Aside0.mk (hbox); have n2_ := Aside0.mk ((by rw [hg]; exact (below_size (by repeat (first | (with_reducible first | exact HB.out | apply below_alloc | apply pw_below_drewN | apply below_drew1) | exact HB.out))) : w.heap.size ≤ gb143)); have n3_ := Aside0.mk ((by rw [hg]; exact (below_size (by repeat (first | (with_reducible first | exact HB.out | apply below_alloc | apply pw_below_drewN | apply below_drew1) | exact HB.out))) : w.heap.size ≤ gb143)); clear HB; have HB := n0_; have BK143 := n1_; have GW143 := n2_; have GE143 := n3_; clear n0_ n1_ n2_ n3_; clear hb hbox hg) | ((with_reducible refine gate_dst (N := 1) rfl ?_); refine Kd.R_lit (Kd.int .i64) _ 3 ?hg (N := 1) ?hd (xs := ([0] : List Int)) (inner := [.int .i64 0]) (ok := fun _ => True) (okp := fun _ => True) ?hr ?hp (fun _ hk => hk) trivial (Below.refl _ _) (Nat.le_refl _) (by simp) ?_; (case hd => rfl); (case hg => rfl); (case hr => first | (go_simp; done) | (go_simp; rfl)); (case hp => exact (Reps.one (show Kd.M (Kd.int .i64) _ _ _ 0 [.int .i64 0] from rfl) (Reps.none _ _))); intro v145 w2 ho3 hb hg_ hnew_; clear hg_ hnew_; (first | rw [← Ny144.out] at ho3 | (simp only [Int.reduceToNat] at ho3; rw [← Ny144.out] at ho3)); have n0_ := Aside0.mk (Kd.R_lower (Kd.R_newM (M := fun k_ => (w.heap.size ≤ k_)) ho3 (below_size (by repeat (first | (with_reducible first | exact HB.out | apply below_alloc | apply pw_below_drewN | apply below_drew1 | refine below_set ?_ GE143.out) | exact HB.out))) (fun k_ h_ => h_)) (below_size (by repeat (first | (with_reducible first | exact HB.out | apply below_alloc | apply pw_below_drewN | apply below_drew1 | refine below_set ?_ GE143.out) | exact HB.out)))); have n1_ := Aside0.mk (blk_below (g := gb143) (o := .cells #[.int .i64 0, .slice none 0 0] 52 (0, 0)) (by (with_reducible repeat (first | refine blk_drewN ?_ _ | refine blk_drew ?_ | refine blk_alloc ?_ _)); exact BK143.out) hb); have n2_ := Aside0.mk (below_step (by repeat (first | (with_reducible first | exact HB.out | apply below_alloc | apply pw_below_drewN | apply below_drew1 | refine below_set ?_ GE143.out) | exact HB.out)) hb); clear BK143; clear HB; have HO146 := n0_; have BK143 := n1_; have HB := n2_; clear n0_ n1_ n2_; clear hb ho3; obtain ⟨Ao4, co4, eo4⟩ := Kd.R_slice HO146.out; subst eo4) | ((with_reducible refine gate_dst (N := 3) rfl ?_); refine Kd.R_lit (Kd.int .i64) _ 3 ?hg (N := 3) ?hd (xs := ([0, 1] : List Int)) (inner := [.int .i64 0, .int .i64 1]) (ok := fun _ => True) (okp := fun _ => True) ?hr ?hp (fun _ hk => hk) trivial (Below.refl _ _) (Nat.le_refl _) (by simp) ?_; (case hd => rfl); (case hg => rfl); (case hr => first | (go_simp; done) | (go_simp; rfl)); (case hp => exact (Reps.one (show Kd.M (Kd.int .i64) _ _ _ 0 [.int .i64 0] from rfl) (Reps.one (show Kd.M (Kd.int .i64) _ _ _ 1 [.int .i64 1] from rfl) (Reps.none _ _)))); intro v148 w5 ho6 hb hg_ hnew_; clear hg_ hnew_; (first | rw [← Ny147.out] at ho6 | (simp only [Int.reduceToNat] at ho6; rw [← Ny147.out] at ho6)); have n0_ := Aside0.mk (Kd.R_elder' (by (with_reducible repeat (first | apply Kd.R_alloc | apply Kd.R_drewN | apply Kd.R_drew)); exact HO146.out) (Kd.R_base ho6) hb); have n1_ := Aside0.mk (Kd.R_lower (Kd.R_new' (Kd.R_newM (M := fun k_ => (w.heap.size ≤ k_)) ho6 (below_size (by repeat (first | (with_reducible first | exact HB.out | apply below_alloc | apply pw_below_drewN | apply below_drew1 | refine below_set ?_ GE143.out) | exact HB.out))) (fun k_ h_ => h_)) (Kd.R_lt (by (with_reducible repeat (first | apply Kd.R_alloc | apply Kd.R_drewN | apply Kd.R_drew)); exact HO146.out))) (below_size (by repeat (first | (with_reducible first | exact HB.out | apply below_alloc | apply pw_below_drewN | apply below_drew1 | refine below_set ?_ GE143.out) | exact HB.out)))); have n2_ := Aside0.mk (blk_below (g := gb143) (o := .cells #[.int .i64 0, .slice none 0 0] 52 (0, 0)) (by (with_reducible repeat (first | refine blk_drewN ?_ _ | refine blk_drew ?_ | refine blk_alloc ?_ _)); exact BK143.out) hb); have n3_ := Aside0.mk (below_step (by repeat (first | (with_reducible first | exact HB.out | apply below_alloc | apply pw_below_drewN | apply below_drew1 | refine below_set ?_ GE143.out) | exact HB.out)) hb); clear HO146; clear BK143; clear HB; have HO146 := n0_; have HO149 := n1_; have BK143 := n2_; have HB := n3_; clear n0_ n1_ n2_ n3_; clear hb ho6; obtain ⟨Ao7, co7, eo7⟩ := Kd.R_slice HO149.out; subst eo7) | ((with_reducible refine gate_dst (N := 5) rfl ?_); refine Kd.R_lit (Kd.int .i64) _ 3 ?hg (N := 5) ?hd (xs := ([0, 1, 2] : List Int)) (inner := [.int .i64 0, .int .i64 1, .int .i64 2]) (ok := fun _ => True) (okp := fun _ => True) ?hr ?hp (fun _ hk => hk) trivial (Below.refl _ _) (Nat.le_refl _) (by simp) ?_; (case hd => rfl); (case hg => rfl); (case hr => first | (go_simp; done) | (go_simp; rfl)); (case hp => exact (Reps.one (show Kd.M (Kd.int .i64) _ _ _ 0 [.int .i64 0] from rfl) (Reps.one (show Kd.M (Kd.int .i64) _ _ _ 1 [.int .i64 1] from rfl) (Reps.one (show Kd.M (Kd.int .i64) _ _ _ 2 [.int .i64 2] from rfl) (Reps.none _ _))))); intro v151 w8 ho9 hb hg_ hnew_; clear hg_ hnew_; (first | rw [← Ny150.out] at ho9 | (simp only [Int.reduceToNat] at ho9; rw [← Ny150.out] at ho9)); have n0_ := Aside0.mk (Kd.R_elder' (by (with_reducible repeat (first | apply Kd.R_alloc | apply Kd.R_drewN | apply Kd.R_drew)); exact HO146.out) (Kd.R_base ho9) hb); have n1_ := Aside0.mk (Kd.R_elder' (by (with_reducible repeat (first | apply Kd.R_alloc | apply Kd.R_drewN | apply Kd.R_drew)); exact HO149.out) (Kd.R_base ho9) hb); have n2_ := Aside0.mk (Kd.R_lower (Kd.R_new' (Kd.R_new' (Kd.R_newM (M := fun k_ => (w.heap.size ≤ k_)) ho9 (below_size (by repeat (first | (with_reducible first | exact HB.out | apply below_alloc | apply pw_below_drewN | apply below_drew1 | refine below_set ?_ GE143.out) | exact HB.out))) (fun k_ h_ => h_)) (Kd.R_lt (by (with_reducible repeat (first | apply Kd.R_alloc | apply Kd.R_drewN | apply Kd.R_drew)); exact HO146.out))) (Kd.R_lt (by (with_reducible repeat (first | apply Kd.R_alloc | apply Kd.R_drewN | apply Kd.R_drew)); exact HO149.out))) (below_size (by repeat (first | (with_reducible first | exact HB.out | apply below_alloc | apply pw_below_drewN | apply below_drew1 | refine below_set ?_ GE143.out) | exact HB.out)))); have n3_ := Aside0.mk (blk_below (g := gb143) (o := .cells #[.int .i64 0, .slice none 0 0] 52 (0, 0)) (by (with_reducible repeat (first | refine blk_drewN ?_ _ | refine blk_drew ?_ | refine blk_alloc ?_ _)); exact BK143.out) hb); have n4_ := Aside0.mk (below_step (by repeat (first | (with_reducible first | exact HB.out | apply below_alloc | apply pw_below_drewN | apply below_drew1 | refine below_set ?_ GE143.out) | exact HB.out)) hb); clear HO146; clear HO149; clear BK143; clear HB; have HO146 := n0_; have HO149 := n1_; have HO152 := n2_; have BK143 := n3_; have HB := n4_; clear n0_ n1_ n2_ n3_ n4_; clear hb ho9; obtain ⟨Ao10, co10, eo10⟩ := Kd.R_slice HO152.out; subst eo10) | ((with_reducible refine gate_dst (N := 7) rfl ?_); refine Kd.N_lit k62 _ 62 ?hg (N' := 7) ?hd (xs := ([(⟨y144, 1⟩ : S62), (⟨y147, 1⟩ : S62), (⟨y150, 1⟩ : S62)] : List (S62))) (inner := [.slice Ao4 y144.length co4, .int .i64 1, .slice Ao7 y147.length co7, .int .i64 1, .slice Ao10 y150.length co10, .int .i64 1]) (ok := (fun k_ => (w.heap.size ≤ k_) ∧ k_ ≠ gb143)) (okp := (fun k_ => (w.heap.size ≤ k_) ∧ k_ ≠ gb143)) ?hr ?hp (fun _ hk => hk) ((show ∀ k_, w8.heap.size ≤ k_ → (fun k_ => (w.heap.size ≤ k_) ∧ k_ ≠ gb143) k_ from fun k_ hk => ⟨(Nat.le_trans (below_size (by repeat (first | (with_reducible first | exact HB.out | apply below_alloc | apply pw_below_drewN | apply below_drew1 | refine below_set ?_ GE143.out) | exact HB.out))) hk), Kd.freshB (g := gb143) (o := .cells #[.int .i64 0, .slice none 0 0] 52 (0, 0)) (by (with_reducible repeat (first | refine blk_drewN ?_ _ | refine blk_drew ?_ | refine blk_alloc ?_ _)); exact BK143.out) k_ hk⟩) _ (Nat.le_refl _)) (Below.refl _ _) (Nat.le_refl _) (by simp) ?_; (case hd => rfl); (case hg => rfl); (case hr => first | (go_simp; done) | (go_simp; rfl)); (case hp => exact (Reps.c2 (show Kd.FK k62 _ _ (⟨y144, 1⟩ : S62) [.slice Ao4 y144.length co4, .int .i64 1] from (k62_mkF _ _ (⟨y144, 1⟩ : S62) (Kd.R_reads' (Kd.R_mono (ok' := (fun k_ => (w.heap.size ≤ k_) ∧ k_ ≠ gb143)) (Kd.R_types (HO146.out) BK143.out (by decide)) (fun k_ hk => ⟨hk.1.1.1.1, hk.2⟩))).2.1 (Kd.R_F (Kd.R_mono (ok' := (fun k_ => (w.heap.size ≤ k_) ∧ k_ ≠ gb143)) (Kd.R_types (HO146.out) BK143.out (by decide)) (fun k_ hk => ⟨hk.1.1.1.1, hk.2⟩))))) (Reps.c2 (show Kd.FK k62 _ _ (⟨y147, 1⟩ : S62) [.slice Ao7 y147.length co7, .int .i64 1] from (k62_mkF _ _ (⟨y147, 1⟩ : S62) (Kd.R_reads' (Kd.R_mono (ok' := (fun k_ => (w.heap.size ≤ k_) ∧ k_ ≠ gb143)) (Kd.R_types (HO149.out) BK143.out (by decide)) (fun k_ hk => ⟨hk.1.1.1.1, hk.2⟩))).2.1 (Kd.R_F (Kd.R_mono (ok' := (fun k_ => (w.heap.size ≤ k_) ∧ k_ ≠ gb143)) (Kd.R_types (HO149.out) BK143.out (by decide)) (fun k_ hk => ⟨hk.1.1.1.1, hk.2⟩))))) (Reps.c2 (show Kd.FK k62 _ _ (⟨y150, 1⟩ : S62) [.slice Ao10 y150.length co10, .int .i64 1] from (k62_mkF _ _ (⟨y150, 1⟩ : S62) (Kd.R_reads' (Kd.R_mono (ok' := (fun k_ => (w.heap.size ≤ k_) ∧ k_ ≠ gb143)) (Kd.R_types (HO152.out) BK143.out (by decide)) (fun k_ hk => ⟨hk.1.1.1.1, hk.2⟩))).2.1 (Kd.R_F (Kd.R_mono (ok' := (fun k_ => (w.heap.size ≤ k_) ∧ k_ ≠ gb143)) (Kd.R_types (HO152.out) BK143.out (by decide)) (fun k_ hk => ⟨hk.1.1.1.1, hk.2⟩))))) (Reps.none _ _))))); intro v154 w11 ho12 hb hg_ hnew_; clear hg_ hnew_; (first | rw [← Ny153.out] at ho12 | (simp only [Int.reduceToNat] at ho12; rw [← Ny153.out] at ho12)); have n0_ := Aside0.mk (Kd.N_lower ho12 (below_size (by repeat (first | (with_reducible first | exact HB.out | apply below_alloc | apply pw_below_drewN | apply below_drew1 | refine below_set ?_ GE143.out) | exact HB.out)))); have n1_ := Aside0.mk (blk_below (g := gb143) (o := .cells #[.int .i64 0, .slice none 0 0] 52 (0, 0)) (by (with_reducible repeat (first | refine blk_drewN ?_ _ | refine blk_drew ?_ | refine blk_alloc ?_ _)); exact BK143.out) hb); have n2_ := Aside0.mk (below_step (by repeat (first | (with_reducible first | exact HB.out | apply below_alloc | apply pw_below_drewN | apply below_drew1 | refine below_set ?_ GE143.out) | exact HB.out)) hb); clear BK143; clear HB; clear HO146; clear HO149; clear HO152; have HO155 := n0_; have BK143 := n1_; have HB := n2_; clear n0_ n1_ n2_; clear hb ho12; obtain ⟨Ao13, co13, eo13⟩ := Kd.N_slice HO155.out; subst eo13; have hcz14_0 : w11.cell? ⟨gb143, 0, none⟩ = some (.int .i64 0) := (blk_cell BK143.out 0).trans rfl; have hcz14_1 : w11.cell? ⟨gb143, 1, none⟩ = some (.slice none 0 0) := (blk_cell BK143.out 1).trans rfl; have hfz14_0 := blk_frozen BK143.out 0; have hfz14_1 := blk_frozen BK143.out 1))
  refine bodyPost_ret (results_cell_row rfl _ _ gb143 52 #[.int .i64 4, .slice Ao13 y153.length co13] (0, 0) _ rfl (by (with_reducible repeat (first | refine blk_drewN ?_ _ | refine blk_drew ?_ | refine blk_alloc ?_ _)); refine blk_put (cs := #[.int .i64 4, .slice none 0 0]) ?_ 1 _ rfl; (with_reducible repeat (first | refine blk_drewN ?_ _ | refine blk_drew ?_ | refine blk_alloc ?_ _)); refine blk_put (cs := #[.int .i64 0, .slice none 0 0]) ?_ 0 _ rfl; (with_reducible repeat (first | refine blk_drewN ?_ _ | refine blk_drew ?_ | refine blk_alloc ?_ _)); exact BK143.out) Try.underlying52 rfl (by kernel_rfl)) rfl ?_
  exact ⟨_, by first | rfl | (simp [errW_none, errW_some] <;> rfl) | (simp [*, errW_none, errW_some] <;> rfl), by (with_reducible repeat (first | apply Kd.N_alloc | apply Kd.N_drewN | apply Kd.N_drew)); exact Kd.N_mono (Kd.N_far (p := ⟨gb143, 1, none⟩) (Kd.N_far (p := ⟨gb143, 0, none⟩) (Kd.N_mono HO155.out (fun k_ hk => (⟨hk, hk.2⟩ : _ ∧ k_ ≠ gb143))) (fun _ hk => hk.2) (.int .i64 4)) (fun _ hk => hk.2) (.slice Ao13 y153.length co13)) (fun _ hk => hk.1.1), by repeat (first | (with_reducible first | exact HB.out | apply below_alloc | apply pw_below_drewN | apply below_drew1 | refine below_set ?_ GE143.out) | exact HB.out)⟩
end Go.Proofs.Ytkhnhkjihhhbbaa.P

namespace Go.Proofs.Ytkhnhkjihhhbbaa.P
open Go.RowKit Go.Proofs.YtkhnhkjihhhbbaaW.PrintWords Go.Proofs.YtkhnhkjihhhbbaaW.PrintLast Go.Proofs.YtkhnhkjihhhbbaaW.PrintMore
set_option linter.unusedVariables false
set_option linter.unusedSimpArgs false
/-- What is in s and not in o. -/
def andN (s o : Nat) : Nat := s ^^^ (s &&& o)
theorem andN_bit (s o i : Nat) : (andN s o).testBit i = (s.testBit i && !o.testBit i) := by
  unfold andN
  rw [Nat.testBit_xor, Nat.testBit_and]
  cases s.testBit i <;> cases o.testBit i <;> rfl
theorem andN_le (s o : Nat) : andN s o ≤ s := by
  have : andN s o = s &&& andN s o := Nat.eq_of_testBit_eq fun i => by
    rw [Nat.testBit_and, andN_bit]
    cases s.testBit i <;> rfl
  rw [this]
  exact Nat.and_le_left
theorem and_lt {s o : Nat} (h : andN s o ≠ 0) : s &&& o < s := by
  refine Nat.lt_of_le_of_ne Nat.and_le_left fun e => h ?_
  unfold andN
  rw [e, Nat.xor_self]
theorem andN_lt {s o : Nat} (h : s &&& o ≠ 0) : andN s o < s := by
  refine Nat.lt_of_le_of_ne (andN_le s o) fun e => h ?_
  refine Nat.eq_of_testBit_eq fun i => ?_
  have hb := congrArg (fun x => Nat.testBit x i) e
  simp only [andN_bit] at hb
  rw [Nat.testBit_and, Nat.zero_testBit]
  revert hb
  cases s.testBit i <;> cases o.testBit i <;> simp
def ocI (s : Int) : Int := (bits_OnesCount.f s).getD 0
theorem oc_some (s : Int) : ∃ n, bits_OnesCount.f s = some n := by
  unfold bits_OnesCount.f bits_OnesCount64.f
  rw [Option.bind_some]
  exact ⟨_, rfl⟩
theorem oc_f (s : Int) : bits_OnesCount.f s = some (ocI s) := by
  obtain ⟨n, hn⟩ := oc_some s
  unfold ocI
  rw [hn, Option.getD_some]
/-- One suspect alone. -/
def single (s : Nat) : Bool := ocI (s : Int) == 1
/-- The best test for s, the tests from number i on being left. -/
def bestL (r : Nat → Int × Int) (s : Nat) : List (Nat × Int) → Int → Int × Int → Int × Int
  | [], _, out => out
  | t :: l, i, out =>
    if s &&& t.1 = 0 ∨ andN s t.1 = 0 then bestL r s l (i + 1) out
    else if (r (s &&& t.1)).1 < 0 ∨ (r (andN s t.1)).1 < 0 then bestL r s l (i + 1) out
    else if out.1 < 0 ∨ t.2 + mx (r (s &&& t.1)).1 (r (andN s t.1)).1 < out.1 then bestL r s l (i + 1) (t.2 + mx (r (s &&& t.1)).1 (r (andN s t.1)).1, i)
    else bestL r s l (i + 1) out
theorem bestL_congr {r r' : Nat → Int × Int} {s : Nat} (h : ∀ x, x < s → r x = r' x) : ∀ (T : List (Nat × Int)) (i : Int) (out : Int × Int), bestL r s T i out = bestL r' s T i out
  | [], _, _ => rfl
  | t :: l, i, out => by
    unfold bestL
    by_cases h0 : s &&& t.1 = 0 ∨ andN s t.1 = 0
    · rw [if_pos h0, if_pos h0]; exact bestL_congr h l _ _
    · rw [if_neg h0, if_neg h0]
      rw [h _ (and_lt (fun e => h0 (.inr e))), h _ (andN_lt (fun e => h0 (.inl e)))]
      by_cases h1 : (r' (s &&& t.1)).1 < 0 ∨ (r' (andN s t.1)).1 < 0
      · rw [if_pos h1, if_pos h1]; exact bestL_congr h l _ _
      · rw [if_neg h1, if_neg h1]
        by_cases h2 : out.1 < 0 ∨ t.2 + mx (r' (s &&& t.1)).1 (r' (andN s t.1)).1 < out.1
        · rw [if_pos h2, if_pos h2]; exact bestL_congr h l _ _
        · rw [if_neg h2, if_neg h2]; exact bestL_congr h l _ _
def bestF (T : List (Nat × Int)) : Nat → Nat → Int × Int
  | 0, _ => (-1, -1)
  | k + 1, s => if single s = true then (0, -1) else bestL (bestF T k) s T 0 (-1, -1)
theorem bestF_stable (T : List (Nat × Int)) : ∀ (s k k' : Nat), s < k → s < k' → bestF T k s = bestF T k' s := by
  intro s
  induction s using Nat.strongRecOn with
  | ind s ih =>
    intro k k' hk hk'
    obtain ⟨k, rfl⟩ : ∃ j, k = j + 1 := ⟨k - 1, by omega⟩
    obtain ⟨k', rfl⟩ : ∃ j, k' = j + 1 := ⟨k' - 1, by omega⟩
    unfold bestF
    rw [bestL_congr (fun x hx => ih x hx k k' (by omega) (by omega))]
/-- What it costs to tell a set of suspects apart (below 0: it can't be done), and the best test. -/
def best (T : List (Nat × Int)) (s : Nat) : Int × Int := bestF T (s + 1) s
theorem best_eq (T : List (Nat × Int)) (s : Nat) : best T s = if single s = true then (0, -1) else bestL (best T) s T 0 (-1, -1) := by
  show bestF T (s + 1) s = _
  unfold bestF
  rw [bestL_congr (fun x hx => bestF_stable T x s (x + 1) hx (by omega))]
  rfl
theorem mx_cases (a b : Int) : mx a b = a ∧ b ≤ a ∨ mx a b = b ∧ a ≤ b := by unfold mx; split <;> omega
theorem bestL_bound {r : Nat → Int × Int} {s : Nat} {n : Int} (h : ∀ x, x < s → -1 ≤ (r x).1 ∧ (r x).1 ≤ 1000 * (x : Int)) : ∀ (T : List (Nat × Int)) (i : Int) (out : Int × Int), (∀ t ∈ T, 0 ≤ t.2 ∧ t.2 ≤ 1000) → 0 ≤ i → i + T.length ≤ n →
    -1 ≤ out.1 ∧ out.1 ≤ 1000 * (s : Int) ∧ -1 ≤ out.2 ∧ out.2 < n ∧ (0 ≤ out.1 → 0 ≤ out.2) → -1 ≤ (bestL r s T i out).1 ∧ (bestL r s T i out).1 ≤ 1000 * (s : Int) ∧ -1 ≤ (bestL r s T i out).2 ∧ (bestL r s T i out).2 < n ∧ (0 ≤ (bestL r s T i out).1 → 0 ≤ (bestL r s T i out).2)
  | [], _, out, _, _, _, ho => ho
  | t :: l, i, out, hT, hi, hn, ho => by
    unfold bestL
    have hl : ∀ x ∈ l, 0 ≤ x.2 ∧ x.2 ≤ 1000 := fun x hx => hT x (List.mem_cons_of_mem _ hx)
    have ht := hT t List.mem_cons_self
    rw [List.length_cons] at hn
    by_cases h0 : s &&& t.1 = 0 ∨ andN s t.1 = 0
    · rw [if_pos h0]; exact bestL_bound h l _ _ hl (by omega) (by omega) ho
    · rw [if_neg h0]
      have ha := and_lt (s := s) (o := t.1) (fun e => h0 (.inr e))
      have hb := andN_lt (s := s) (o := t.1) (fun e => h0 (.inl e))
      by_cases h1 : (r (s &&& t.1)).1 < 0 ∨ (r (andN s t.1)).1 < 0
      · rw [if_pos h1]; exact bestL_bound h l _ _ hl (by omega) (by omega) ho
      · rw [if_neg h1]
        have h3 := h _ ha
        have h4 := h _ hb
        by_cases h2 : out.1 < 0 ∨ t.2 + mx (r (s &&& t.1)).1 (r (andN s t.1)).1 < out.1
        · rw [if_pos h2]
          refine bestL_bound h l _ _ hl (by omega) (by omega) ?_
          rcases mx_cases (r (s &&& t.1)).1 (r (andN s t.1)).1 with h5 | h5 <;> (simp only [h5.1]; omega)
        · rw [if_neg h2]; exact bestL_bound h l _ _ hl (by omega) (by omega) ho
theorem best_bound (T : List (Nat × Int)) (hT : ∀ t ∈ T, 0 ≤ t.2 ∧ t.2 ≤ 1000) : ∀ s, -1 ≤ (best T s).1 ∧ (best T s).1 ≤ 1000 * (s : Int) ∧ -1 ≤ (best T s).2 ∧ ((best T s).2 = -1 ∨ (best T s).2 < (T.length : Int)) := by
  intro s
  induction s using Nat.strongRecOn with
  | ind s ih =>
    rw [best_eq]
    by_cases h1 : single s = true
    · rw [if_pos h1]; exact ⟨by simp, by simp; omega, by simp, .inl rfl⟩
    · rw [if_neg h1]
      cases hT2 : T with
      | nil => exact ⟨by simp [bestL], by simp [bestL]; omega, by simp [bestL], .inl rfl⟩
      | cons t l =>
        rw [← hT2]
        have := bestL_bound (n := (T.length : Int)) (fun x hx => ⟨(ih x hx).1, (ih x hx).2.1⟩) T 0 (-1, -1) hT (by omega) (by omega) ⟨by simp, by simp; omega, by simp, by rw [hT2]; simp; omega, by simp⟩
        exact ⟨this.1, this.2.1, this.2.2.1, .inr this.2.2.2.1⟩
theorem wraps_u64 (n : Int) (h₀ : 0 ≤ n) (h₁ : n < 2 ^ 12) : IntKind.u64.wrap n = n := by
  have : (2 : Int) ^ 12 = 4096 := rfl
  simp [IntKind.wrap, IntKind.bits, IntKind.signed]; omega
theorem bits_and {a b : Nat} (ha : a < 4096) (hb : b < 4096) : Go.bits .and .u64 (a : Int) (b : Int) = ((a &&& b : Nat) : Int) := (bits_nat .u64 12 (by decide) wraps_u64 a b ha hb).1
theorem bits_or {a b : Nat} (ha : a < 4096) (hb : b < 4096) : Go.bits .or .u64 (a : Int) (b : Int) = ((a ||| b : Nat) : Int) := (bits_nat .u64 12 (by decide) wraps_u64 a b ha hb).2
theorem andN_lt' {a b : Nat} (ha : a < 4096) : andN a b < 4096 := Nat.lt_of_le_of_lt (andN_le a b) ha
theorem bits_andNot {a b : Nat} (ha : a < 4096) (hb : b < 4096) : Go.bits .andNot .u64 (a : Int) (b : Int) = ((andN a b : Nat) : Int) := by
  have hw := andN_lt' (b := b) ha
  have e : (BitVec.ofInt IntKind.u64.bits (a : Int) &&& ~~~ BitVec.ofInt IntKind.u64.bits (b : Int)).toNat = andN a b := by
    refine Nat.eq_of_testBit_eq fun i => ?_
    rw [andN_bit, BitVec.testBit_toNat, BitVec.getLsbD_and, BitVec.getLsbD_not, BitVec.ofInt_natCast, BitVec.ofInt_natCast]
    simp only [BitVec.getLsbD_ofNat]
    have h64 : IntKind.u64.bits = 64 := rfl
    by_cases hi : i < 64
    · simp [h64, hi]
    · have : a.testBit i = false := Nat.testBit_lt_two_pow (Nat.lt_of_lt_of_le ha (Nat.le_trans (by decide : 4096 ≤ 2 ^ 64) (Nat.pow_le_pow_right (by decide) (by omega))))
      simp [h64, hi, this]
  show IntKind.u64.wrap _ = _
  rw [e]
  exact wraps_u64 _ (by omega) (by have : (2 : Int) ^ 12 = 4096 := rfl; omega)
end Go.Proofs.Ytkhnhkjihhhbbaa.P

namespace Go.Proofs.Ytkhnhkjihhhbbaa.P
open Go.RowKit Go.Proofs.YtkhnhkjihhhbbaaW.PrintWords Go.Proofs.YtkhnhkjihhhbbaaW.PrintLast Go.Proofs.YtkhnhkjihhhbbaaW.PrintMore
set_option linter.unusedVariables false
set_option linter.unusedSimpArgs false
/-- w2 is w1 but for these four blocks and for new ones. -/
structure Apart (x f b r : Nat) (w1 w2 : World) : Prop where
  os : w2.os = w1.os
  tape : w2.tape = w1.tape
  output : w2.output = w1.output
  size : w1.heap.size ≤ w2.heap.size
  block : ∀ k, k < w1.heap.size → k ≠ x → k ≠ f → k ≠ b → k ≠ r → w2.heap[k]? = w1.heap[k]?
section
variable {x f b r : Nat} {w W w1 w2 : World}
theorem Apart.refl (w : World) : Apart x f b r w w := ⟨rfl, rfl, rfl, Nat.le_refl _, fun _ _ _ _ _ _ => rfl⟩
theorem Apart.trans (h : Apart x f b r w W) (h2 : Apart x f b r W w2) : Apart x f b r w w2 :=
  ⟨h2.os.trans h.os, h2.tape.trans h.tape, h2.output.trans h.output, Nat.le_trans h.size h2.size, fun k hk h1 h3 h4 h5 => (h2.block k (Nat.lt_of_lt_of_le hk h.size) h1 h3 h4 h5).trans (h.block k hk h1 h3 h4 h5)⟩
theorem Apart.of_below (hb : Below W.heap.size W w2) : Apart x f b r W w2 := ⟨hb.os, hb.tape, hb.output, hb.size, fun k hk _ _ _ _ => hb.block k hk⟩
theorem Apart.step (h : Apart x f b r w W) (hb : Below W.heap.size W w2) : Apart x f b r w w2 := h.trans (.of_below hb)
theorem Apart.grown {g : Nat} (h : Apart x f b r w W) (ho : W.grownBy w1 (some g)) (hg : g = x ∨ g = f ∨ g = b ∨ g = r ∨ w.heap.size ≤ g) : Apart x f b r w w1 :=
  ⟨ho.os.trans h.os, ho.tape.trans h.tape, ho.output.trans h.output, Nat.le_trans h.size ho.size, fun k hk h1 h2 h3 h4 => (ho.block k (Nat.lt_of_lt_of_le hk h.size) (fun e => by injection e with e; omega)).trans (h.block k hk h1 h2 h3 h4)⟩
theorem Only.grownBy {g : Nat} (h : Only g W w1) : W.grownBy w1 (some g) := ⟨h.os, h.tape, h.output, by rw [h.size]; exact Nat.le_refl _, fun k hk hne => h.block k (fun e => hne (by rw [e]))⟩
theorem Apart.only {g : Nat} (h : Apart x f b r w W) (ho : Only g W w1) (hg : g = x ∨ g = f ∨ g = b ∨ g = r ∨ w.heap.size ≤ g) : Apart x f b r w w1 := h.grown ho.grownBy hg
theorem Apart.below {n : Nat} {w0 : World} (h : Apart x f b r w W) (h0 : Below n w0 w) (hs : n ≤ w.heap.size) (h1 : n ≤ x) (h2 : n ≤ f) (h3 : n ≤ b) (h4 : n ≤ r) : Below n w0 W :=
  ⟨h.os.trans h0.os, h.tape.trans h0.tape, h.output.trans h0.output, Nat.le_trans h0.size h.size, fun k hk => (h.block k (by omega) (by omega) (by omega) (by omega) (by omega)).trans (h0.block k hk)⟩
theorem Apart.blk {k : Nat} {o : Obj} (h : Apart x f b r W w1) (hb : W.heap[k]? = some o) (h1 : k ≠ x) (h2 : k ≠ f) (h3 : k ≠ b) (h4 : k ≠ r) : w1.heap[k]? = some o := (h.block k (blk_lt hb) h1 h2 h3 h4).trans hb
theorem blk_grownS {g k : Nat} {o : Obj} (hg : W.grownBy w1 (some g)) (hb : W.heap[k]? = some o) (hne : k ≠ g) : w1.heap[k]? = some o := (hg.block k (blk_lt hb) (fun e => by injection e with e; exact hne e)).trans hb
end
/-- A row of ranges in block g (an empty one: anywhere). -/
def Row (w : World) (g : Nat) (v : Value) (l : List S32) : Prop := Kd.R k32 32 w 0 (fun k => k = g) v l
section
variable {w w1 : World} {g n c : Nat} {v : Value} {l : List S32}
theorem Row.same (h : Row w g v l) (hg : g < w.heap.size → w1.heap[g]? = w.heap[g]?) : Row w1 g v l := Kd.R_step h (fun k hk hl => by subst hk; exact hg hl)
theorem Row.below (h : Row w g v l) (hb : Below w.heap.size w w1) : Row w1 g v l := Kd.R_below h hb
theorem Row.grown {k : Nat} (h : Row w g v l) (hg : w.grownBy w1 (some k)) (hne : g ≠ k) : Row w1 g v l := h.same (fun hl => hg.block g hl (fun e => by injection e with e; exact hne e))
theorem Row.only {k : Nat} (h : Row w g v l) (ho : Only k w w1) (hne : g ≠ k) : Row w1 g v l := h.grown ho.grownBy hne
theorem Row.form (h : Row w g v l) (hp : 0 < l.length) : ∃ cap, v = .slice (some ⟨g, 0, none⟩) l.length cap := by
  obtain ⟨g', cap, rfl, _, _, _⟩ := Kd.R_form h hp
  have : g' = g := h.1 g' (by simp [Value.ownBlock])
  exact ⟨cap, by rw [this]⟩
theorem Row.slice (h : Row w g v l) : ∃ A c, v = .slice A l.length c ∧ l.length ≤ c ∧ Kd.C k32 w A l.length l := Kd.R_reads h
theorem Row.size (h : Row w g v l) (hp : 0 < l.length) : g < w.heap.size := by
  obtain ⟨cap, rfl⟩ := h.form hp
  exact Kd.R_lt h g (by simp [Value.ownBlock])
theorem Row.le (h : Row w g (.slice (some ⟨g, 0, none⟩) n c) l) : n = l.length ∧ n ≤ c := ⟨(Kd.R_reads' h).1, (Kd.R_reads' h).2.1⟩
theorem Row.cells (h : Row w g (.slice (some ⟨g, 0, none⟩) n c) l) (i : Int) (h0 : 0 ≤ i) (h1 : i < n) :
    w.cell? ⟨g, i.toNat * 2, none⟩ = some (.int .i64 (rd_T32 l i).f0) ∧ w.cell? ⟨g, i.toNat * 2 + 1, none⟩ = some (.int .i64 (rd_T32 l i).f1) := by
  obtain ⟨cs, _, hM, hc, _⟩ := Kd.R_elem h z32 i h0 h1
  obtain rfl := k32_openM hM
  exact ⟨hc 0 _ rfl, hc 1 _ rfl⟩
/-- A whole element of a row is written. -/
theorem Row.store {P : Program} (hi : (P.info? 32).map (·.size) = some 2) (h : Row w g (.slice (some ⟨g, 0, none⟩) n c) l) (i : Int) (h0 : 0 ≤ i) (h1 : i < n) (p q : Int) :
    ∃ w1, (Instr.storeAt 32 (.pointer (some ⟨g, i.toNat * 2, none⟩)) (.agg #[.int .i64 p, .int .i64 q])).run P w = .ok () w1 ∧ Row w1 g (.slice (some ⟨g, 0, none⟩) n c) (l.set i.toNat ⟨p, q⟩) ∧ w.grownBy w1 (some g) := by
  obtain ⟨cs, hcl, hM, hc, _⟩ := Kd.R_elem h z32 i h0 h1
  obtain ⟨hrow, hg⟩ := Kd.R_seg (seg := [.int .i64 p, .int .i64 q]) (j := 0) (x' := (⟨p, q⟩ : S32)) (okp := fun k => k = g ∧ k ≠ g) h i h0 h1 hcl hc (by show 0 + 2 ≤ 2; omega) (by
    have hd : cs.drop (0 + [Value.int .i64 p, Value.int .i64 q].length) = [] := List.drop_eq_nil_of_le (by rw [hcl]; show 2 ≤ 2; omega)
    rw [List.take_zero, hd, List.nil_append, List.append_nil]
    exact k32_mkM w 0 _ ⟨p, q⟩) (fun k hk => hk)
  refine ⟨_, ?_, hrow, hg⟩
  have hnl := (Kd.R_reads' h).1
  obtain ⟨_, inner, hown, hr⟩ := h
  rcases hown.2 with ⟨hv, _⟩ | ⟨g', cap', cur, hv, hb, hh, hnc, hcm, hcs, _⟩
  · cases hv
  injection hv with ha _ hcc
  injection ha with ha
  injection ha with hg'
  subst hg'; subst hcc
  have hd2 : (k32.sz : Nat) = 2 := rfl
  rw [hd2] at hcs
  have := run_store_run (P := P) (o := i.toNat * 2 + 0) 32 (.agg #[.int .i64 p, .int .i64 q]) [.int .i64 p, .int .i64 q] hh (by simp [Value.cells]) (by simpa using hi) (by simp only [List.length_cons, List.length_nil]; omega) (by simp [Value.oneCell'])
  exact this
end
section
variable {x f b r g k : Nat} {w W W' w2 : World} {o : Obj} {v : Value} {l : List S32}
theorem ap_r (h : Aside0 (Apart x f b r w W)) (h1 : W'.os = W.os := by exact rfl) (h2 : W'.tape = W.tape := by exact rfl) (h3 : W'.output = W.output := by exact rfl) (h4 : W'.heap = W.heap := by exact rfl) : Apart x f b r w W' := ⟨h1.trans h.out.os, h2.trans h.out.tape, h3.trans h.out.output, by rw [h4]; exact h.out.size, fun k hk a1 a2 a3 a4 => by rw [h4]; exact h.out.block k hk a1 a2 a3 a4⟩
theorem ap_b (hb : Below W'.heap.size W' w2) (h : Aside0 (Apart x f b r w W)) (h1 : W'.os = W.os := by exact rfl) (h2 : W'.tape = W.tape := by exact rfl) (h3 : W'.output = W.output := by exact rfl) (h4 : W'.heap = W.heap := by exact rfl) : Aside0 (Apart x f b r w w2) := ⟨Apart.step (ap_r h h1 h2 h3 h4) hb⟩
theorem ap_o (ho : Only g W' w2) (h : Aside0 (Apart x f b r w W)) (hg : g = x ∨ g = f ∨ g = b ∨ g = r ∨ w.heap.size ≤ g) (h1 : W'.os = W.os := by exact rfl) (h2 : W'.tape = W.tape := by exact rfl) (h3 : W'.output = W.output := by exact rfl) (h4 : W'.heap = W.heap := by exact rfl) : Aside0 (Apart x f b r w w2) := ⟨Apart.only (ap_r h h1 h2 h3 h4) ho hg⟩
theorem ap_g (ho : World.grownBy W' w2 (some g)) (h : Aside0 (Apart x f b r w W)) (hg : g = x ∨ g = f ∨ g = b ∨ g = r ∨ w.heap.size ≤ g) (h1 : W'.os = W.os := by exact rfl) (h2 : W'.tape = W.tape := by exact rfl) (h3 : W'.output = W.output := by exact rfl) (h4 : W'.heap = W.heap := by exact rfl) : Aside0 (Apart x f b r w w2) := ⟨Apart.grown (ap_r h h1 h2 h3 h4) ho hg⟩
theorem ge_newx (h : Aside0 (Apart x f b r w W)) (hg : g = W'.heap.size) (h4 : W'.heap = W.heap := by exact rfl) : Aside0 (w.heap.size ≤ g) := ⟨by rw [hg, h4]; exact h.out.size⟩
theorem ne_newx (hk : k < w.heap.size) (h : Aside0 (Apart x f b r w W)) (hg : g = W'.heap.size) (h4 : W'.heap = W.heap := by exact rfl) : Aside0 (k ≠ g) := ⟨by rw [hg, h4]; have := h.out.size; omega⟩
theorem row_r (h : Aside0 (Row W g v l)) (h4 : W'.heap = W.heap := by exact rfl) : Row W' g v l := h.out.same (fun _ => by rw [h4])
theorem row_b (hb : Below W'.heap.size W' w2) (h : Aside0 (Row W g v l)) (h4 : W'.heap = W.heap := by exact rfl) : Aside0 (Row w2 g v l) := ⟨(row_r h h4).below hb⟩
theorem row_o (ho : Only k W' w2) (h : Aside0 (Row W g v l)) (hne : g ≠ k) (h4 : W'.heap = W.heap := by exact rfl) : Aside0 (Row w2 g v l) := ⟨(row_r h h4).only ho hne⟩
theorem row_g (ho : World.grownBy W' w2 (some k)) (h : Aside0 (Row W g v l)) (hne : g ≠ k) (h4 : W'.heap = W.heap := by exact rfl) : Aside0 (Row w2 g v l) := ⟨(row_r h h4).grown ho hne⟩
theorem blk_g (ho : World.grownBy W' w2 (some k)) (h : Aside0 (W.heap[g]? = some o)) (hne : g ≠ k) (h4 : W'.heap = W.heap := by exact rfl) : Aside0 (w2.heap[g]? = some o) := ⟨blk_grownS ho (by rw [h4]; exact h.out) hne⟩
end
def down (n q : Int) : Int := wrap64 (Int.tdiv (wrap64 (n * q)) 1000000)
def up_ (n q : Int) : Int := wrap64 (Int.tdiv (wrap64 (wrap64 (wrap64 (n * q) + 1000000) - 1)) 1000000)
theorem down_any (n q : Int) (w : World) : Calls Try.prog 152 #[.int .i64 n, .int .i64 q] w fun e w' => e = .returned (.int .i64 (down n q)) ∧ Below w.heap.size w w' := by
  go_enter Try.func152, Try.ntmps152
  go_wp2
  go_ret
  exact ⟨rfl, by with_reducible repeat (first | exact Below.refl _ _ | apply pw_below_drewN | apply below_drew)⟩
theorem up_any (n q : Int) (w : World) : Calls Try.prog 153 #[.int .i64 n, .int .i64 q] w fun e w' => e = .returned (.int .i64 (up_ n q)) ∧ Below w.heap.size w w' := by
  go_enter Try.func153, Try.ntmps153
  go_wp2
  go_ret
  exact ⟨rfl, by with_reducible repeat (first | exact Below.refl _ _ | apply pw_below_drewN | apply below_drew)⟩
end Go.Proofs.Ytkhnhkjihhhbbaa.P

namespace Go.Proofs.Ytkhnhkjihhhbbaa.P
open Go.RowKit Go.Proofs.YtkhnhkjihhhbbaaW.PrintWords Go.Proofs.YtkhnhkjihhhbbaaW.PrintLast Go.Proofs.YtkhnhkjihhhbbaaW.PrintMore
set_option linter.unusedVariables false
set_option linter.unusedSimpArgs false
attribute [local go_sem] max2_int min2_int max_two min_two
structure St where
  F : List S32
  Bd : List S32
  Rm : List S32
  mo : Int
  fl : Bool
section
variable {P : Program}
theorem run_cellstore {W : World} {g : Nat} {t : TypeId} {old cells : Array Value} {ty : TypeId} (hg : W.heap[g]? = some (.cells old t (0, 0))) (i : Nat) (u : Value) (hi : (P.info? ty).map (·.size) = some 1)
    (hold : i < old.size) (h1 : u.oneCell' = true) (hu : u.cells = #[u]) (hc : old.setIfInBounds i u = cells) :
    ∃ w1, (Instr.storeAt ty (.pointer (some ⟨g, i, none⟩)) u).run P W = .ok () w1 ∧ w1.heap[g]? = some (.cells cells t (0, 0)) ∧ Only g W w1 :=
  ⟨W.setCell ⟨g, i, none⟩ u, run_store_run (P := P) (w := W) (g := g) (o := i) (e := t) (cur := old) ty u [u] hg (by rw [hu]) (by simpa using hi) (by simp; omega) (by simpa using h1), hc ▸ blk_set hg i u, Only.setCell W g i u⟩
end
/-- The rows of a system that came in with w0; the four blocks of its gas are of the call's own. -/
structure Env (w0 w : World) (xb fb bb rb : Nat) (A0 A1 A2 A3 A4 : Option Addr) (c0 c1 c2 c3 c4 : Nat) (l0 : List S36) (l1 : List S138) (l2 : List S112) (l3 : List S140) (l4 : List S142) : Prop where
  h0 : Below w0.heap.size w0 w
  s1 : w0.heap.size ≤ xb
  s2 : w0.heap.size ≤ fb
  s3 : w0.heap.size ≤ bb
  s4 : w0.heap.size ≤ rb
  t1 : xb < w.heap.size
  t2 : fb < w.heap.size
  t3 : bb < w.heap.size
  t4 : rb < w.heap.size
  n1 : xb ≠ fb
  n2 : xb ≠ bb
  n3 : xb ≠ rb
  n4 : fb ≠ bb
  n5 : fb ≠ rb
  n6 : bb ≠ rb
  r0 : Kd.C k36 w0 A0 l0.length l0
  r1 : Kd.C k138 w0 A1 l1.length l1
  r2 : Kd.C k112 w0 A2 l2.length l2
  r3 : Kd.C k140 w0 A3 l3.length l3
  r4 : Kd.C k142 w0 A4 l4.length l4
  k0 : l0.length ≤ c0
  k1 : l1.length ≤ c1
  k2 : l2.length ≤ c2
  k3 : l3.length ≤ c3
  k4 : l4.length ≤ c4
  m0 : l0.length ≤ 8 ∧ l1.length ≤ 16 ∧ l2.length ≤ 8 ∧ l3.length ≤ 8 ∧ l4.length ≤ 8
theorem Env.apart {w0 w w' : World} {xb fb bb rb : Nat} {A0 A1 A2 A3 A4 : Option Addr} {c0 c1 c2 c3 c4 : Nat} {l0 : List S36} {l1 : List S138} {l2 : List S112} {l3 : List S140} {l4 : List S142}
    (h : Env w0 w xb fb bb rb A0 A1 A2 A3 A4 c0 c1 c2 c3 c4 l0 l1 l2 l3 l4) (ha : Apart xb fb bb rb w w') : Env w0 w' xb fb bb rb A0 A1 A2 A3 A4 c0 c1 c2 c3 c4 l0 l1 l2 l3 l4 :=
  { h with h0 := ha.below h.h0 h.h0.size h.s1 h.s2 h.s3 h.s4, t1 := Nat.lt_of_lt_of_le h.t1 ha.size, t2 := Nat.lt_of_lt_of_le h.t2 ha.size, t3 := Nat.lt_of_lt_of_le h.t3 ha.size, t4 := Nat.lt_of_lt_of_le h.t4 ha.size }
/-- The system's block and the rows of its gas. -/
structure Sys (xb fb bb rb : Nat) (A0 A1 A2 A3 A4 : Option Addr) (c0 c1 c2 c3 c4 cF cB : Nat) (vR : Value) (l0 : List S36) (l1 : List S138) (l2 : List S112) (l3 : List S140) (l4 : List S142) (F Bd Rm : List S32) (mo : Int) (fl : Bool) (w : World) : Prop where
  box : w.heap[xb]? = some (.cells #[.slice A0 l0.length c0, .slice A1 l1.length c1, .slice A2 l2.length c2, .slice A3 l3.length c3, .slice A4 l4.length c4, .slice (some ⟨fb, 0, none⟩) l0.length cF, .slice (some ⟨bb, 0, none⟩) l0.length cB, vR, .int .i64 mo, .bool fl] 119 (0, 0))
  rF : Row w fb (.slice (some ⟨fb, 0, none⟩) l0.length cF) (F)
  rB : Row w bb (.slice (some ⟨bb, 0, none⟩) l0.length cB) (Bd)
  rR : Row w rb (vR) (Rm)
def begS : List S140 → Int → Int
  | [], m => m
  | l :: ls, m => begS ls (mn 68719476736 (wrap64 (m + l.f1.f1)))
section
variable {w0 w : World} {xb fb bb rb : Nat} {A0 A1 A2 A3 A4 As : Option Addr} {c0 c1 c2 c3 c4 cF cB cs : Nat} {vR : Value} {l0 : List S36} {l1 : List S138} {l2 : List S112} {l3 : List S140} {l4 : List S142} {F Bd Rm : List S32} {mo tk he : Int} {fl fs : Bool} {sh : List Int}
set_option maxHeartbeats 8000000 in
set_option maxRecDepth 100000 in
theorem begin_true (hE : Env w0 w xb fb bb rb A0 A1 A2 A3 A4 c0 c1 c2 c3 c4 l0 l1 l2 l3 l4) (hS : Sys xb fb bb rb A0 A1 A2 A3 A4 c0 c1 c2 c3 c4 cF cB vR l0 l1 l2 l3 l4 F Bd Rm mo true w) :
    Calls Try.prog 141 #[.pointer (some ⟨xb, 0, none⟩), .agg #[.int .i64 tk, .int .i64 he, .slice As sh.length cs, .bool fs]] w fun e w' => (∃ v, e = .returned v) ∧ Apart xb fb bb rb w w' ∧ Sys xb fb bb rb A0 A1 A2 A3 A4 c0 c1 c2 c3 c4 cF cB vR l0 l1 l2 l3 l4 F Bd Rm (begS l3 mo) (true || fs) w' := by
  obtain ⟨H0, hs1, hs2, hs3, hs4, hl1, hl2, hl3, hl4, n1, n2, n3, n4, n5, n6, hr0, hr1, hr2, hr3, hr4, hc0, hc1, hc2, hc3, hc4, hm0⟩ := hE
  have HX : Aside0 (xb < w.heap.size ∧ fb < w.heap.size ∧ bb < w.heap.size ∧ rb < w.heap.size) := ⟨hl1, hl2, hl3, hl4⟩
  have HG : Aside0 (w0.heap.size ≤ xb ∧ w0.heap.size ≤ fb ∧ w0.heap.size ≤ bb ∧ w0.heap.size ≤ rb ∧ w0.heap.size ≤ w.heap.size) := ⟨hs1, hs2, hs3, hs4, H0.size⟩
  have HW0 := Aside0.mk H0
  clear hl1 hl2 hl3 hl4 hs1 hs2 hs3 hs4 H0
  have N_xb_fb := Aside0.mk n1
  have N_xb_bb := Aside0.mk n2
  have N_xb_rb := Aside0.mk n3
  have N_fb_bb := Aside0.mk n4
  have N_fb_rb := Aside0.mk n5
  have N_bb_rb := Aside0.mk n6
  have HR0 := Aside0.mk hr0
  have HR1 := Aside0.mk hr1
  have HR2 := Aside0.mk hr2
  have HR3 := Aside0.mk hr3
  have HR4 := Aside0.mk hr4
  have HC0 := Aside0.mk hc0
  have HC1 := Aside0.mk hc1
  have HC2 := Aside0.mk hc2
  have HC3 := Aside0.mk hc3
  have HC4 := Aside0.mk hc4
  have HM := Aside0.mk hm0
  clear n1 n2 n3 n4 n5 n6 hr0 hr1 hr2 hr3 hr4 hc0 hc1 hc2 hc3 hc4 hm0
  have HB : Aside0 (Apart xb fb bb rb w w) := ⟨Apart.refl w⟩
  obtain ⟨hb1, hb2, hb3, hb4⟩ := hS
  have Bxb := Aside0.mk hb1
  have Bfb := Aside0.mk hb2
  have Bbb := Aside0.mk hb3
  have Brb := Aside0.mk hb4
  clear hb1 hb2 hb3 hb4
  obtain ⟨cxb_0, cxb_1, cxb_2, cxb_3, cxb_4, cxb_5, cxb_6, cxb_7, cxb_8, cxb_9⟩ := cells10 Bxb.out; 
  go_enter Try.func141, Try.ntmps141
  go_wp2_with (first | ((with_reducible refine gate_dst (N := 3) rfl ?_); go_must (refine box_ev (N := 3) (cs := #[.int .i64 tk, .int .i64 he, .slice As sh.length cs, .bool fs]) (t := 45) (h := ?_); intro s hgs w1 hbox hb; have GEs := ge_newx HB hgs; have N_xb_s := ne_newx HX.out.1 HB hgs; have N_fb_s := ne_newx HX.out.2.1 HB hgs; have N_bb_s := ne_newx HX.out.2.2.1 HB hgs; have N_rb_s := ne_newx HX.out.2.2.2 HB hgs; replace HB := ap_b hb HB; replace Bxb := blk_b hb Bxb; (try clear cxb_0 cxb_1 cxb_2 cxb_3 cxb_4 cxb_5 cxb_6 cxb_7 cxb_8 cxb_9); obtain ⟨cxb_0, cxb_1, cxb_2, cxb_3, cxb_4, cxb_5, cxb_6, cxb_7, cxb_8, cxb_9⟩ := cells10 Bxb.out; replace Bfb := row_b hb Bfb; replace Bbb := row_b hb Bbb; replace Brb := row_b hb Brb; have Bs := Aside0.mk hbox; clear hbox; obtain ⟨cs_0, cs_1, cs_2, cs_3⟩ := cells4 Bs.out; (try clear hb); clear hgs)) | ((with_reducible refine gate_store (t := 4) (p := 18) rfl ?_); go_must (refine cell_ev xb 9 (.bool (true || fs)) (cells := #[.slice A0 l0.length c0, .slice A1 l1.length c1, .slice A2 l2.length c2, .slice A3 l3.length c3, .slice A4 l4.length c4, .slice (some ⟨fb, 0, none⟩) l0.length cF, .slice (some ⟨bb, 0, none⟩) l0.length cB, vR, .int .i64 mo, .bool (true || fs)]) Bxb.out (h := ?_); intro w2 hbox ho_; replace HB := ap_o ho_ HB (Or.inl rfl); replace Bfb := row_o ho_ Bfb (by first | exact N_fb_xb.out | exact N_xb_fb.out.symm); replace Bbb := row_o ho_ Bbb (by first | exact N_bb_xb.out | exact N_xb_bb.out.symm); replace Brb := row_o ho_ Brb (by first | exact N_rb_xb.out | exact N_xb_rb.out.symm); replace Bs := blk_o ho_ Bs (by first | exact N_s_xb.out | exact N_xb_s.out.symm); (try clear cs_0 cs_1 cs_2 cs_3); obtain ⟨cs_0, cs_1, cs_2, cs_3⟩ := cells4 Bs.out; replace Bxb := Aside0.mk hbox; clear hbox ho_; (try clear cxb_0 cxb_1 cxb_2 cxb_3 cxb_4 cxb_5 cxb_6 cxb_7 cxb_8 cxb_9); obtain ⟨cxb_0, cxb_1, cxb_2, cxb_3, cxb_4, cxb_5, cxb_6, cxb_7, cxb_8, cxb_9⟩ := cells10 Bxb.out; )))
  go_loopg [25] (l3.length) (fun k v25 w' => ∃ (i m : Int), 0 ≤ i ∧ k = l3.length - i.toNat ∧ i ≤ l3.length ∧ v25 = .int .i64 i ∧ Aside0 (begS l3 mo = begS (l3.drop i.toNat) m) ∧ Aside0 (Apart xb fb bb rb w w') ∧ Aside0 (w'.heap[xb]? = some (.cells #[.slice A0 l0.length c0, .slice A1 l1.length c1, .slice A2 l2.length c2, .slice A3 l3.length c3, .slice A4 l4.length c4, .slice (some ⟨fb, 0, none⟩) l0.length cF, .slice (some ⟨bb, 0, none⟩) l0.length cB, vR, .int .i64 m, .bool (true || fs)] 119 (0, 0))) ∧ Aside0 (Row w' fb (.slice (some ⟨fb, 0, none⟩) l0.length cF) (F)) ∧ Aside0 (Row w' bb (.slice (some ⟨bb, 0, none⟩) l0.length cB) (Bd)) ∧ Aside0 (Row w' rb (vR) (Rm)) ∧ Aside0 (w'.heap[s]? = some (.cells #[.int .i64 tk, .int .i64 he, .slice As sh.length cs, .bool fs] 45 (0, 0))))
  case atStart => exact ⟨0, mo, by omega, by simp, by omega, rfl, ⟨by simp⟩, HB, Bxb, Bfb, Bbb, Brb, Bs⟩
  case round =>
    clear HB Bxb Bfb Bbb Brb Bs
    (try clear cxb_0 cxb_1 cxb_2 cxb_3 cxb_4 cxb_5 cxb_6 cxb_7 cxb_8 cxb_9); (try clear cs_0 cs_1 cs_2 cs_3); 
    obtain ⟨i, m, hi0, hn, hi, rfl, HE, HB, Bxb, Bfb, Bbb, Brb, Bs⟩ := hrel
    have Hn := Aside0.mk hn
    clear hn
    obtain ⟨cxb_0, cxb_1, cxb_2, cxb_3, cxb_4, cxb_5, cxb_6, cxb_7, cxb_8, cxb_9⟩ := cells10 Bxb.out; 
    obtain ⟨cs_0, cs_1, cs_2, cs_3⟩ := cells4 Bs.out; 
    by_cases hi' : i < l3.length
    · have HD : Aside0 (l3.drop i.toNat = (rd_T140 l3 i) :: l3.drop (i + 1).toNat) := ⟨by
        rw [show (i + 1).toNat = i.toNat + 1 by omega, List.drop_eq_getElem_cons (by omega)]; unfold rd_T140; simp [List.getD_eq_getElem?_getD, List.getElem?_eq_getElem (show i.toNat < l3.length by omega)]⟩
      obtain ⟨ad, had, k0, k1, k2⟩ := at_T140 HR3.out i hi0 (hi')
      replace k0 := pw_cell_below (Apart.below (show Apart xb fb bb rb w _ from (ap_r HB)) HW0.out HG.out.2.2.2.2 HG.out.1 HG.out.2.1 HG.out.2.2.1 HG.out.2.2.2.1) k0
      replace k1 := pw_cell_below (Apart.below (show Apart xb fb bb rb w _ from (ap_r HB)) HW0.out HG.out.2.2.2.2 HG.out.1 HG.out.2.1 HG.out.2.2.1 HG.out.2.2.2.1) k1
      replace k2 := pw_cell_below (Apart.below (show Apart xb fb bb rb w _ from (ap_r HB)) HW0.out HG.out.2.2.2.2 HG.out.1 HG.out.2.1 HG.out.2.2.1 HG.out.2.2.2.1) k2
      cases had
      go_wp2_with (first | ((with_reducible refine gate_dst (N := 5) rfl ?_); go_must (refine box_ev (N := 5) (cs := #[.int .i64 0, .int .i64 0, .int .i64 0]) (t := 140) (h := ?_); intro p5 hgp5 w3 hbox hb; have GEp5 := ge_newx HB hgp5; have N_xb_p5 := ne_newx HX.out.1 HB hgp5; have N_fb_p5 := ne_newx HX.out.2.1 HB hgp5; have N_bb_p5 := ne_newx HX.out.2.2.1 HB hgp5; have N_rb_p5 := ne_newx HX.out.2.2.2 HB hgp5; have N_s_p5 := ne_new Bs hgp5; replace HB := ap_b hb HB; replace Bxb := blk_b hb Bxb; (try clear cxb_0 cxb_1 cxb_2 cxb_3 cxb_4 cxb_5 cxb_6 cxb_7 cxb_8 cxb_9); obtain ⟨cxb_0, cxb_1, cxb_2, cxb_3, cxb_4, cxb_5, cxb_6, cxb_7, cxb_8, cxb_9⟩ := cells10 Bxb.out; replace Bfb := row_b hb Bfb; replace Bbb := row_b hb Bbb; replace Brb := row_b hb Brb; replace Bs := blk_b hb Bs; (try clear cs_0 cs_1 cs_2 cs_3); obtain ⟨cs_0, cs_1, cs_2, cs_3⟩ := cells4 Bs.out; have Bp5 := Aside0.mk hbox; clear hbox; obtain ⟨cp5_0, cp5_1, cp5_2⟩ := cells3 Bp5.out; (try clear hb); clear hgp5)) | ((with_reducible refine gate_store (t := 140) (p := 5) rfl ?_); go_must (refine row_ev p5 #[.int .i64 (rd_T140 l3 i).f0, .int .i64 (rd_T140 l3 i).f1.f0, .int .i64 (rd_T140 l3 i).f1.f1] Bp5.out (h := ?_); intro w4 hbox ho_; replace HB := ap_o ho_ HB (Or.inr (Or.inr (Or.inr (Or.inr GEp5.out)))); replace Bxb := blk_o ho_ Bxb (by first | exact N_xb_p5.out | exact N_p5_xb.out.symm); (try clear cxb_0 cxb_1 cxb_2 cxb_3 cxb_4 cxb_5 cxb_6 cxb_7 cxb_8 cxb_9); obtain ⟨cxb_0, cxb_1, cxb_2, cxb_3, cxb_4, cxb_5, cxb_6, cxb_7, cxb_8, cxb_9⟩ := cells10 Bxb.out; replace Bfb := row_o ho_ Bfb (by first | exact N_fb_p5.out | exact N_p5_fb.out.symm); replace Bbb := row_o ho_ Bbb (by first | exact N_bb_p5.out | exact N_p5_bb.out.symm); replace Brb := row_o ho_ Brb (by first | exact N_rb_p5.out | exact N_p5_rb.out.symm); replace Bs := blk_o ho_ Bs (by first | exact N_s_p5.out | exact N_p5_s.out.symm); (try clear cs_0 cs_1 cs_2 cs_3); obtain ⟨cs_0, cs_1, cs_2, cs_3⟩ := cells4 Bs.out; replace Bp5 := Aside0.mk hbox; clear hbox ho_; (try clear cp5_0 cp5_1 cp5_2); obtain ⟨cp5_0, cp5_1, cp5_2⟩ := cells3 Bp5.out; )))
      refine region_ri (n := 15) (B := [0, 0, 2, 6, 14, 30, 0, 64, 192, 510, 1022, 2047, 4095, 8191, 16383]) (fun o_ => match o_ with | 0 => some 29 | 1 => some 30 | 2 => some 31 | 3 => some 32 | 4 => some 33 | 5 => some 34 | 6 => some 35 | 7 => some 36 | 8 => some 37 | 9 => some 38 | 10 => some 39 | 11 => some 40 | 12 => some 41 | 13 => some 42 | 14 => none | _ => none) (fun o_ q_ w' => match o_ with | 0 => q_ = .pointer (some ⟨xb, 0, none⟩) | 1 => q_ = .pointer (some ⟨xb, 0, none⟩) | 2 => q_ = .pointer (some ⟨xb, 0, none⟩) | 3 => q_ = .pointer (some ⟨xb, 5, none⟩) | 4 => q_ = .pointer (some ⟨xb, 8, none⟩) | 5 => q_ = .int .i64 m | 6 => q_ = .pointer (some ⟨p5, 1, none⟩) | 7 => q_ = .pointer (some ⟨p5, 2, none⟩) | 8 => q_ = .int .i64 (rd_T140 l3 i).f1.f1 | 9 => q_ = .int .i64 (wrap64 (m + (rd_T140 l3 i).f1.f1)) | 10 => q_ = .int .i64 (mn 68719476736 (wrap64 (m + (rd_T140 l3 i).f1.f1))) | 11 => q_ = .pointer (some ⟨xb, 0, none⟩) | 12 => q_ = .pointer (some ⟨xb, 5, none⟩) | 13 => q_ = .pointer (some ⟨xb, 8, none⟩) | _ => True) (fun b w' => if b 14 = true then (Aside0 (Apart xb fb bb rb w w') ∧ Aside0 (w'.heap[xb]? = some (.cells #[.slice A0 l0.length c0, .slice A1 l1.length c1, .slice A2 l2.length c2, .slice (some ad) l3.length c3, .slice A4 l4.length c4, .slice (some ⟨fb, 0, none⟩) l0.length cF, .slice (some ⟨bb, 0, none⟩) l0.length cB, vR, .int .i64 ((mn 68719476736 (wrap64 (m + (rd_T140 l3 i).f1.f1)))), .bool (true || fs)] 119 (0, 0))) ∧ Aside0 (Row w' fb (.slice (some ⟨fb, 0, none⟩) l0.length cF) (F)) ∧ Aside0 (Row w' bb (.slice (some ⟨bb, 0, none⟩) l0.length cB) (Bd)) ∧ Aside0 (Row w' rb (vR) (Rm)) ∧ Aside0 (w'.heap[s]? = some (.cells #[.int .i64 tk, .int .i64 he, .slice As sh.length cs, .bool fs] 45 (0, 0)))) else (Aside0 (Apart xb fb bb rb w w') ∧ Aside0 (w'.heap[xb]? = some (.cells #[.slice A0 l0.length c0, .slice A1 l1.length c1, .slice A2 l2.length c2, .slice (some ad) l3.length c3, .slice A4 l4.length c4, .slice (some ⟨fb, 0, none⟩) l0.length cF, .slice (some ⟨bb, 0, none⟩) l0.length cB, vR, .int .i64 m, .bool (true || fs)] 119 (0, 0))) ∧ Aside0 (Row w' fb (.slice (some ⟨fb, 0, none⟩) l0.length cF) (F)) ∧ Aside0 (Row w' bb (.slice (some ⟨bb, 0, none⟩) l0.length cB) (Bd)) ∧ Aside0 (Row w' rb (vR) (Rm)) ∧ Aside0 (w'.heap[s]? = some (.cells #[.int .i64 tk, .int .i64 he, .slice As sh.length cs, .bool fs] 45 (0, 0))) ∧ Aside0 (w'.heap[p5]? = some (.cells #[.int .i64 (rd_T140 l3 i).f0, .int .i64 (rd_T140 l3 i).f1.f0, .int .i64 (rd_T140 l3 i).f1.f1] 140 (0, 0))))) rfl rfl (by kernel_rfl) (by kernel_rfl) (by kernel_rfl) (by show (if false = true then _ else _); rw [if_neg (by decide)]; exact ⟨ap_b (below_drew (Below.refl _ _)) HB, blk_b (below_drew (Below.refl _ _)) Bxb, row_b (below_drew (Below.refl _ _)) Bfb, row_b (below_drew (Below.refl _ _)) Bbb, row_b (below_drew (Below.refl _ _)) Brb, blk_b (below_drew (Below.refl _ _)) Bs, blk_b (below_drew (Below.refl _ _)) Bp5⟩) ?_ ?_
      · intro o_ hi
        match o_, hi with
        | 0, _ =>
          intro b a wq hI hbi_ hb_ hoff_
          have e0 : a.eval (.tmp 0) = .pointer (some ⟨xb, 0, none⟩) := hI.old 0 (by decide) rfl
          have s0 := sv_ e0
          have hJ := hI.j
          exact op_keep hI (i := 0) (jk_ hJ (by decide)) (hrun := gs_)
        | 1, _ =>
          intro b a wq hI hbi_ hb_ hoff_
          have e0 : a.eval (.tmp 0) = .pointer (some ⟨xb, 0, none⟩) := hI.old 0 (by decide) rfl
          have s0 := sv_ e0
          have hJ := hI.j
          exact op_keep hI (i := 1) (jk_ hJ (by decide)) (hrun := gs_)
        | 2, _ =>
          intro b a wq hI hbi_ hb_ hoff_
          have e30 := hI.new 30 1 (by decide) (hb_ 1 (by decide)) rfl fun _ h => h
          have s30 := sv_ e30
          have hJ := hI.j
          exact op_keep hI (i := 2) (jk_ hJ (by decide)) (hrun := gs_)
        | 3, _ =>
          intro b a wq hI hbi_ hb_ hoff_
          have e31 := hI.new 31 2 (by decide) (hb_ 2 (by decide)) rfl fun _ h => h
          have s31 := sv_ e31
          have hJ := hI.j
          exact op_keep hI (i := 3) (jk_ hJ (by decide)) (hrun := gs_)
        | 4, _ =>
          intro b a wq hI hbi_ hb_ hoff_
          have e32 := hI.new 32 3 (by decide) (hb_ 3 (by decide)) rfl fun _ h => h
          have s32 := sv_ e32
          have hJ := hI.j
          exact op_keep hI (i := 4) (jk_ hJ (by decide)) (hrun := gs_)
        | 5, _ =>
          intro b a wq hI hbi_ hb_ hoff_
          have e33 := hI.new 33 4 (by decide) (hb_ 4 (by decide)) rfl fun _ h => h
          have s33 := sv_ e33
          have hJ := hI.j
          obtain ⟨HBq, qxb, qfb, qbb, qrb, qs, qp5⟩ := j0_ hJ (hoff_ 14 (by decide))
          obtain ⟨cxb_0, cxb_1, cxb_2, cxb_3, cxb_4, cxb_5, cxb_6, cxb_7, cxb_8, cxb_9⟩ := cells10 qxb.out; 
          exact op_keep hI (i := 5) (jk_ hJ (by decide)) (hrun := gs_)
        | 6, _ =>
          intro b a wq hI hbi_ hb_ hoff_
          have e5 : a.eval (.tmp 5) = .pointer (some ⟨p5, 0, none⟩) := hI.old 5 (by decide) rfl
          have s5 := sv_ e5
          have hJ := hI.j
          exact op_keep hI (i := 6) (jk_ hJ (by decide)) (hrun := gs_)
        | 7, _ =>
          intro b a wq hI hbi_ hb_ hoff_
          have e35 := hI.new 35 6 (by decide) (hb_ 6 (by decide)) rfl fun _ h => h
          have s35 := sv_ e35
          have hJ := hI.j
          exact op_keep hI (i := 7) (jk_ hJ (by decide)) (hrun := gs_)
        | 8, _ =>
          intro b a wq hI hbi_ hb_ hoff_
          have e36 := hI.new 36 7 (by decide) (hb_ 7 (by decide)) rfl fun _ h => h
          have s36 := sv_ e36
          have hJ := hI.j
          obtain ⟨HBq, qxb, qfb, qbb, qrb, qs, qp5⟩ := j0_ hJ (hoff_ 14 (by decide))
          obtain ⟨cp5_0, cp5_1, cp5_2⟩ := cells3 qp5.out; 
          exact op_keep hI (i := 8) (jk_ hJ (by decide)) (hrun := gs_)
        | 9, _ =>
          intro b a wq hI hbi_ hb_ hoff_
          have e34 := hI.new 34 5 (by decide) (hb_ 5 (by decide)) rfl fun _ h => h
          have s34 := sv_ e34
          have e37 := hI.new 37 8 (by decide) (hb_ 8 (by decide)) rfl fun _ h => h
          have s37 := sv_ e37
          have hJ := hI.j
          exact op_keep hI (i := 9) (jk_ hJ (by decide)) (hrun := gs_)
        | 10, _ =>
          intro b a wq hI hbi_ hb_ hoff_
          have e38 := hI.new 38 9 (by decide) (hb_ 9 (by decide)) rfl fun _ h => h
          have s38 := sv_ e38
          have hJ := hI.j
          exact op_keep hI (i := 10) (jk_ hJ (by decide)) (hrun := gs_)
        | 11, _ =>
          intro b a wq hI hbi_ hb_ hoff_
          have e29 := hI.new 29 0 (by decide) (hb_ 0 (by decide)) rfl fun _ h => h
          have s29 := sv_ e29
          have hJ := hI.j
          exact op_keep hI (i := 11) (jk_ hJ (by decide)) (hrun := gs_)
        | 12, _ =>
          intro b a wq hI hbi_ hb_ hoff_
          have e40 := hI.new 40 11 (by decide) (hb_ 11 (by decide)) rfl fun _ h => h
          have s40 := sv_ e40
          have hJ := hI.j
          exact op_keep hI (i := 12) (jk_ hJ (by decide)) (hrun := gs_)
        | 13, _ =>
          intro b a wq hI hbi_ hb_ hoff_
          have e41 := hI.new 41 12 (by decide) (hb_ 12 (by decide)) rfl fun _ h => h
          have s41 := sv_ e41
          have hJ := hI.j
          exact op_keep hI (i := 13) (jk_ hJ (by decide)) (hrun := gs_)
        | 14, _ =>
          intro b a wq hI hbi_ hb_ hoff_
          have e42 := hI.new 42 13 (by decide) (hb_ 13 (by decide)) rfl fun _ h => h
          have s42 := sv_ e42
          have e39 := hI.new 39 10 (by decide) (hb_ 10 (by decide)) rfl fun _ h => h
          have s39 := sv_ e39
          have hJ := hI.j
          obtain ⟨HBq, qxb, qfb, qbb, qrb, qs, qp5⟩ := j0_ hJ hbi_
          obtain ⟨cxb_0, cxb_1, cxb_2, cxb_3, cxb_4, cxb_5, cxb_6, cxb_7, cxb_8, cxb_9⟩ := cells10 qxb.out; 
          obtain ⟨cs_0, cs_1, cs_2, cs_3⟩ := cells4 qs.out; 
          obtain ⟨cp5_0, cp5_1, cp5_2⟩ := cells3 qp5.out; 
          refine ⟨_, rfl, rfl, fun K hK => ?_⟩
          obtain ⟨w2, hrun2, hbox2, ho2⟩ := run_cellstore (P := Try.prog) (ty := 3) qxb.out 8 (.int .i64 (mn 68719476736 (wrap64 (m + (rd_T140 l3 i).f1.f1)))) (by kernel_rfl) (by simp) (by simp [Value.oneCell']) rfl (cells := #[.slice A0 l0.length c0, .slice A1 l1.length c1, .slice A2 l2.length c2, .slice (some ad) l3.length c3, .slice A4 l4.length c4, .slice (some ⟨fb, 0, none⟩) l0.length cF, .slice (some ⟨bb, 0, none⟩) l0.length cB, vR, .int .i64 ((mn 68719476736 (wrap64 (m + (rd_T140 l3 i).f1.f1)))), .bool (true || fs)]) rfl
          refine skip_ rfl rfl (w1 := w2) (by unfold execOp; simp [e42, e39, hrun2]) (hK undef _ (by show (if up b 14 14 = true then _ else _); rw [up_self, if_pos rfl]; exact ⟨⟨Apart.only HBq.out ho2 (Or.inl rfl)⟩, ⟨hbox2⟩, ⟨Row.only qfb.out ho2 (Ne.symm N_xb_fb.out)⟩, ⟨Row.only qbb.out ho2 (Ne.symm N_xb_bb.out)⟩, ⟨Row.only qrb.out ho2 (Ne.symm N_xb_rb.out)⟩, ⟨Only.blk ho2 qs.out (Ne.symm N_xb_s.out)⟩⟩) (fun _ _ h => h) trivial)
        | o_ + 15, hi => exact absurd hi (by omega)
      intro vs wn b_ hall hJ hT
      replace hJ := j1_ hJ (hall 14 (by decide))
      obtain ⟨HJ0, HT0⟩ : Aside0 _ ∧ Aside0 _ := ⟨⟨hJ⟩, ⟨hT⟩⟩
      clear hall hJ hT
      simp only [fillAll, show List.range 15 = [0, 1, 2, 3, 4, 5, 6, 7, 8, 9, 10, 11, 12, 13, 14] from rfl]
      rw [show vs 0 = _ from HT0.out 0 (by decide) (by decide), show vs 1 = _ from HT0.out 1 (by decide) (by decide), show vs 2 = _ from HT0.out 2 (by decide) (by decide), show vs 3 = _ from HT0.out 3 (by decide) (by decide), show vs 4 = _ from HT0.out 4 (by decide) (by decide), show vs 5 = _ from HT0.out 5 (by decide) (by decide), show vs 6 = _ from HT0.out 6 (by decide) (by decide), show vs 7 = _ from HT0.out 7 (by decide) (by decide), show vs 8 = _ from HT0.out 8 (by decide) (by decide), show vs 9 = _ from HT0.out 9 (by decide) (by decide), show vs 10 = _ from HT0.out 10 (by decide) (by decide), show vs 11 = _ from HT0.out 11 (by decide) (by decide), show vs 12 = _ from HT0.out 12 (by decide) (by decide), show vs 13 = _ from HT0.out 13 (by decide) (by decide)]
      simp only [Act.put, List.setIfInBounds_toArray, List.set_cons_zero, List.set_cons_succ]
      clear HB Bxb Bfb Bbb Brb Bs
      obtain ⟨HB, Bxb, Bfb, Bbb, Brb, Bs⟩ := HJ0.out
      clear HJ0 HT0
      have hm3 := HM.out.2.2.2.1
      go_wp2
      go_roundg (l3.length - (i + 1).toNat)
      case measure => have := Hn.out; omega
      case rel => exact ⟨i + 1, _, by omega, rfl, by omega, rfl, ⟨by rw [HE.out, HD.out, begS]⟩, HB, Bxb, Bfb, Bbb, Brb, Bs⟩
    · have HE0 : Aside0 (begS l3 mo = m) := ⟨by rw [HE.out, List.drop_eq_nil_of_le (by omega)]; rfl⟩
      go_wp2
      go_end0
      exact ⟨⟨_, rfl⟩, (ap_r HB), ⟨by rw [HE0.out]; exact Bxb.out, Bfb.out, Bbb.out, Brb.out⟩⟩
set_option maxHeartbeats 8000000 in
set_option maxRecDepth 100000 in
theorem begin_false (hE : Env w0 w xb fb bb rb A0 A1 A2 A3 A4 c0 c1 c2 c3 c4 l0 l1 l2 l3 l4) (hS : Sys xb fb bb rb A0 A1 A2 A3 A4 c0 c1 c2 c3 c4 cF cB vR l0 l1 l2 l3 l4 F Bd Rm mo false w) :
    Calls Try.prog 141 #[.pointer (some ⟨xb, 0, none⟩), .agg #[.int .i64 tk, .int .i64 he, .slice As sh.length cs, .bool fs]] w fun e w' => (∃ v, e = .returned v) ∧ Apart xb fb bb rb w w' ∧ Sys xb fb bb rb A0 A1 A2 A3 A4 c0 c1 c2 c3 c4 cF cB vR l0 l1 l2 l3 l4 F Bd Rm (begS l3 mo) (false || fs) w' := by
  obtain ⟨H0, hs1, hs2, hs3, hs4, hl1, hl2, hl3, hl4, n1, n2, n3, n4, n5, n6, hr0, hr1, hr2, hr3, hr4, hc0, hc1, hc2, hc3, hc4, hm0⟩ := hE
  have HX : Aside0 (xb < w.heap.size ∧ fb < w.heap.size ∧ bb < w.heap.size ∧ rb < w.heap.size) := ⟨hl1, hl2, hl3, hl4⟩
  have HG : Aside0 (w0.heap.size ≤ xb ∧ w0.heap.size ≤ fb ∧ w0.heap.size ≤ bb ∧ w0.heap.size ≤ rb ∧ w0.heap.size ≤ w.heap.size) := ⟨hs1, hs2, hs3, hs4, H0.size⟩
  have HW0 := Aside0.mk H0
  clear hl1 hl2 hl3 hl4 hs1 hs2 hs3 hs4 H0
  have N_xb_fb := Aside0.mk n1
  have N_xb_bb := Aside0.mk n2
  have N_xb_rb := Aside0.mk n3
  have N_fb_bb := Aside0.mk n4
  have N_fb_rb := Aside0.mk n5
  have N_bb_rb := Aside0.mk n6
  have HR0 := Aside0.mk hr0
  have HR1 := Aside0.mk hr1
  have HR2 := Aside0.mk hr2
  have HR3 := Aside0.mk hr3
  have HR4 := Aside0.mk hr4
  have HC0 := Aside0.mk hc0
  have HC1 := Aside0.mk hc1
  have HC2 := Aside0.mk hc2
  have HC3 := Aside0.mk hc3
  have HC4 := Aside0.mk hc4
  have HM := Aside0.mk hm0
  clear n1 n2 n3 n4 n5 n6 hr0 hr1 hr2 hr3 hr4 hc0 hc1 hc2 hc3 hc4 hm0
  have HB : Aside0 (Apart xb fb bb rb w w) := ⟨Apart.refl w⟩
  obtain ⟨hb1, hb2, hb3, hb4⟩ := hS
  have Bxb := Aside0.mk hb1
  have Bfb := Aside0.mk hb2
  have Bbb := Aside0.mk hb3
  have Brb := Aside0.mk hb4
  clear hb1 hb2 hb3 hb4
  obtain ⟨cxb_0, cxb_1, cxb_2, cxb_3, cxb_4, cxb_5, cxb_6, cxb_7, cxb_8, cxb_9⟩ := cells10 Bxb.out; 
  go_enter Try.func141, Try.ntmps141
  go_wp2_with (first | ((with_reducible refine gate_dst (N := 3) rfl ?_); go_must (refine box_ev (N := 3) (cs := #[.int .i64 tk, .int .i64 he, .slice As sh.length cs, .bool fs]) (t := 45) (h := ?_); intro s hgs w1 hbox hb; have GEs := ge_newx HB hgs; have N_xb_s := ne_newx HX.out.1 HB hgs; have N_fb_s := ne_newx HX.out.2.1 HB hgs; have N_bb_s := ne_newx HX.out.2.2.1 HB hgs; have N_rb_s := ne_newx HX.out.2.2.2 HB hgs; replace HB := ap_b hb HB; replace Bxb := blk_b hb Bxb; (try clear cxb_0 cxb_1 cxb_2 cxb_3 cxb_4 cxb_5 cxb_6 cxb_7 cxb_8 cxb_9); obtain ⟨cxb_0, cxb_1, cxb_2, cxb_3, cxb_4, cxb_5, cxb_6, cxb_7, cxb_8, cxb_9⟩ := cells10 Bxb.out; replace Bfb := row_b hb Bfb; replace Bbb := row_b hb Bbb; replace Brb := row_b hb Brb; have Bs := Aside0.mk hbox; clear hbox; obtain ⟨cs_0, cs_1, cs_2, cs_3⟩ := cells4 Bs.out; (try clear hb); clear hgs)) | ((with_reducible refine gate_store (t := 4) (p := 18) rfl ?_); go_must (refine cell_ev xb 9 (.bool (false || fs)) (cells := #[.slice A0 l0.length c0, .slice A1 l1.length c1, .slice A2 l2.length c2, .slice A3 l3.length c3, .slice A4 l4.length c4, .slice (some ⟨fb, 0, none⟩) l0.length cF, .slice (some ⟨bb, 0, none⟩) l0.length cB, vR, .int .i64 mo, .bool (false || fs)]) Bxb.out (h := ?_); intro w2 hbox ho_; replace HB := ap_o ho_ HB (Or.inl rfl); replace Bfb := row_o ho_ Bfb (by first | exact N_fb_xb.out | exact N_xb_fb.out.symm); replace Bbb := row_o ho_ Bbb (by first | exact N_bb_xb.out | exact N_xb_bb.out.symm); replace Brb := row_o ho_ Brb (by first | exact N_rb_xb.out | exact N_xb_rb.out.symm); replace Bs := blk_o ho_ Bs (by first | exact N_s_xb.out | exact N_xb_s.out.symm); (try clear cs_0 cs_1 cs_2 cs_3); obtain ⟨cs_0, cs_1, cs_2, cs_3⟩ := cells4 Bs.out; replace Bxb := Aside0.mk hbox; clear hbox ho_; (try clear cxb_0 cxb_1 cxb_2 cxb_3 cxb_4 cxb_5 cxb_6 cxb_7 cxb_8 cxb_9); obtain ⟨cxb_0, cxb_1, cxb_2, cxb_3, cxb_4, cxb_5, cxb_6, cxb_7, cxb_8, cxb_9⟩ := cells10 Bxb.out; )))
  go_loopg [25] (l3.length) (fun k v25 w' => ∃ (i m : Int), 0 ≤ i ∧ k = l3.length - i.toNat ∧ i ≤ l3.length ∧ v25 = .int .i64 i ∧ Aside0 (begS l3 mo = begS (l3.drop i.toNat) m) ∧ Aside0 (Apart xb fb bb rb w w') ∧ Aside0 (w'.heap[xb]? = some (.cells #[.slice A0 l0.length c0, .slice A1 l1.length c1, .slice A2 l2.length c2, .slice A3 l3.length c3, .slice A4 l4.length c4, .slice (some ⟨fb, 0, none⟩) l0.length cF, .slice (some ⟨bb, 0, none⟩) l0.length cB, vR, .int .i64 m, .bool (false || fs)] 119 (0, 0))) ∧ Aside0 (Row w' fb (.slice (some ⟨fb, 0, none⟩) l0.length cF) (F)) ∧ Aside0 (Row w' bb (.slice (some ⟨bb, 0, none⟩) l0.length cB) (Bd)) ∧ Aside0 (Row w' rb (vR) (Rm)) ∧ Aside0 (w'.heap[s]? = some (.cells #[.int .i64 tk, .int .i64 he, .slice As sh.length cs, .bool fs] 45 (0, 0))))
  case atStart => exact ⟨0, mo, by omega, by simp, by omega, rfl, ⟨by simp⟩, HB, Bxb, Bfb, Bbb, Brb, Bs⟩
  case round =>
    clear HB Bxb Bfb Bbb Brb Bs
    (try clear cxb_0 cxb_1 cxb_2 cxb_3 cxb_4 cxb_5 cxb_6 cxb_7 cxb_8 cxb_9); (try clear cs_0 cs_1 cs_2 cs_3); 
    obtain ⟨i, m, hi0, hn, hi, rfl, HE, HB, Bxb, Bfb, Bbb, Brb, Bs⟩ := hrel
    have Hn := Aside0.mk hn
    clear hn
    obtain ⟨cxb_0, cxb_1, cxb_2, cxb_3, cxb_4, cxb_5, cxb_6, cxb_7, cxb_8, cxb_9⟩ := cells10 Bxb.out; 
    obtain ⟨cs_0, cs_1, cs_2, cs_3⟩ := cells4 Bs.out; 
    by_cases hi' : i < l3.length
    · have HD : Aside0 (l3.drop i.toNat = (rd_T140 l3 i) :: l3.drop (i + 1).toNat) := ⟨by
        rw [show (i + 1).toNat = i.toNat + 1 by omega, List.drop_eq_getElem_cons (by omega)]; unfold rd_T140; simp [List.getD_eq_getElem?_getD, List.getElem?_eq_getElem (show i.toNat < l3.length by omega)]⟩
      obtain ⟨ad, had, k0, k1, k2⟩ := at_T140 HR3.out i hi0 (hi')
      replace k0 := pw_cell_below (Apart.below (show Apart xb fb bb rb w _ from (ap_r HB)) HW0.out HG.out.2.2.2.2 HG.out.1 HG.out.2.1 HG.out.2.2.1 HG.out.2.2.2.1) k0
      replace k1 := pw_cell_below (Apart.below (show Apart xb fb bb rb w _ from (ap_r HB)) HW0.out HG.out.2.2.2.2 HG.out.1 HG.out.2.1 HG.out.2.2.1 HG.out.2.2.2.1) k1
      replace k2 := pw_cell_below (Apart.below (show Apart xb fb bb rb w _ from (ap_r HB)) HW0.out HG.out.2.2.2.2 HG.out.1 HG.out.2.1 HG.out.2.2.1 HG.out.2.2.2.1) k2
      cases had
      go_wp2_with (first | ((with_reducible refine gate_dst (N := 5) rfl ?_); go_must (refine box_ev (N := 5) (cs := #[.int .i64 0, .int .i64 0, .int .i64 0]) (t := 140) (h := ?_); intro p5 hgp5 w3 hbox hb; have GEp5 := ge_newx HB hgp5; have N_xb_p5 := ne_newx HX.out.1 HB hgp5; have N_fb_p5 := ne_newx HX.out.2.1 HB hgp5; have N_bb_p5 := ne_newx HX.out.2.2.1 HB hgp5; have N_rb_p5 := ne_newx HX.out.2.2.2 HB hgp5; have N_s_p5 := ne_new Bs hgp5; replace HB := ap_b hb HB; replace Bxb := blk_b hb Bxb; (try clear cxb_0 cxb_1 cxb_2 cxb_3 cxb_4 cxb_5 cxb_6 cxb_7 cxb_8 cxb_9); obtain ⟨cxb_0, cxb_1, cxb_2, cxb_3, cxb_4, cxb_5, cxb_6, cxb_7, cxb_8, cxb_9⟩ := cells10 Bxb.out; replace Bfb := row_b hb Bfb; replace Bbb := row_b hb Bbb; replace Brb := row_b hb Brb; replace Bs := blk_b hb Bs; (try clear cs_0 cs_1 cs_2 cs_3); obtain ⟨cs_0, cs_1, cs_2, cs_3⟩ := cells4 Bs.out; have Bp5 := Aside0.mk hbox; clear hbox; obtain ⟨cp5_0, cp5_1, cp5_2⟩ := cells3 Bp5.out; (try clear hb); clear hgp5)) | ((with_reducible refine gate_store (t := 140) (p := 5) rfl ?_); go_must (refine row_ev p5 #[.int .i64 (rd_T140 l3 i).f0, .int .i64 (rd_T140 l3 i).f1.f0, .int .i64 (rd_T140 l3 i).f1.f1] Bp5.out (h := ?_); intro w4 hbox ho_; replace HB := ap_o ho_ HB (Or.inr (Or.inr (Or.inr (Or.inr GEp5.out)))); replace Bxb := blk_o ho_ Bxb (by first | exact N_xb_p5.out | exact N_p5_xb.out.symm); (try clear cxb_0 cxb_1 cxb_2 cxb_3 cxb_4 cxb_5 cxb_6 cxb_7 cxb_8 cxb_9); obtain ⟨cxb_0, cxb_1, cxb_2, cxb_3, cxb_4, cxb_5, cxb_6, cxb_7, cxb_8, cxb_9⟩ := cells10 Bxb.out; replace Bfb := row_o ho_ Bfb (by first | exact N_fb_p5.out | exact N_p5_fb.out.symm); replace Bbb := row_o ho_ Bbb (by first | exact N_bb_p5.out | exact N_p5_bb.out.symm); replace Brb := row_o ho_ Brb (by first | exact N_rb_p5.out | exact N_p5_rb.out.symm); replace Bs := blk_o ho_ Bs (by first | exact N_s_p5.out | exact N_p5_s.out.symm); (try clear cs_0 cs_1 cs_2 cs_3); obtain ⟨cs_0, cs_1, cs_2, cs_3⟩ := cells4 Bs.out; replace Bp5 := Aside0.mk hbox; clear hbox ho_; (try clear cp5_0 cp5_1 cp5_2); obtain ⟨cp5_0, cp5_1, cp5_2⟩ := cells3 Bp5.out; )))
      refine region_ri (n := 15) (B := [0, 0, 2, 6, 14, 30, 0, 64, 192, 510, 1022, 2047, 4095, 8191, 16383]) (fun o_ => match o_ with | 0 => some 29 | 1 => some 30 | 2 => some 31 | 3 => some 32 | 4 => some 33 | 5 => some 34 | 6 => some 35 | 7 => some 36 | 8 => some 37 | 9 => some 38 | 10 => some 39 | 11 => some 40 | 12 => some 41 | 13 => some 42 | 14 => none | _ => none) (fun o_ q_ w' => match o_ with | 0 => q_ = .pointer (some ⟨xb, 0, none⟩) | 1 => q_ = .pointer (some ⟨xb, 0, none⟩) | 2 => q_ = .pointer (some ⟨xb, 0, none⟩) | 3 => q_ = .pointer (some ⟨xb, 5, none⟩) | 4 => q_ = .pointer (some ⟨xb, 8, none⟩) | 5 => q_ = .int .i64 m | 6 => q_ = .pointer (some ⟨p5, 1, none⟩) | 7 => q_ = .pointer (some ⟨p5, 2, none⟩) | 8 => q_ = .int .i64 (rd_T140 l3 i).f1.f1 | 9 => q_ = .int .i64 (wrap64 (m + (rd_T140 l3 i).f1.f1)) | 10 => q_ = .int .i64 (mn 68719476736 (wrap64 (m + (rd_T140 l3 i).f1.f1))) | 11 => q_ = .pointer (some ⟨xb, 0, none⟩) | 12 => q_ = .pointer (some ⟨xb, 5, none⟩) | 13 => q_ = .pointer (some ⟨xb, 8, none⟩) | _ => True) (fun b w' => if b 14 = true then (Aside0 (Apart xb fb bb rb w w') ∧ Aside0 (w'.heap[xb]? = some (.cells #[.slice A0 l0.length c0, .slice A1 l1.length c1, .slice A2 l2.length c2, .slice (some ad) l3.length c3, .slice A4 l4.length c4, .slice (some ⟨fb, 0, none⟩) l0.length cF, .slice (some ⟨bb, 0, none⟩) l0.length cB, vR, .int .i64 ((mn 68719476736 (wrap64 (m + (rd_T140 l3 i).f1.f1)))), .bool (false || fs)] 119 (0, 0))) ∧ Aside0 (Row w' fb (.slice (some ⟨fb, 0, none⟩) l0.length cF) (F)) ∧ Aside0 (Row w' bb (.slice (some ⟨bb, 0, none⟩) l0.length cB) (Bd)) ∧ Aside0 (Row w' rb (vR) (Rm)) ∧ Aside0 (w'.heap[s]? = some (.cells #[.int .i64 tk, .int .i64 he, .slice As sh.length cs, .bool fs] 45 (0, 0)))) else (Aside0 (Apart xb fb bb rb w w') ∧ Aside0 (w'.heap[xb]? = some (.cells #[.slice A0 l0.length c0, .slice A1 l1.length c1, .slice A2 l2.length c2, .slice (some ad) l3.length c3, .slice A4 l4.length c4, .slice (some ⟨fb, 0, none⟩) l0.length cF, .slice (some ⟨bb, 0, none⟩) l0.length cB, vR, .int .i64 m, .bool (false || fs)] 119 (0, 0))) ∧ Aside0 (Row w' fb (.slice (some ⟨fb, 0, none⟩) l0.length cF) (F)) ∧ Aside0 (Row w' bb (.slice (some ⟨bb, 0, none⟩) l0.length cB) (Bd)) ∧ Aside0 (Row w' rb (vR) (Rm)) ∧ Aside0 (w'.heap[s]? = some (.cells #[.int .i64 tk, .int .i64 he, .slice As sh.length cs, .bool fs] 45 (0, 0))) ∧ Aside0 (w'.heap[p5]? = some (.cells #[.int .i64 (rd_T140 l3 i).f0, .int .i64 (rd_T140 l3 i).f1.f0, .int .i64 (rd_T140 l3 i).f1.f1] 140 (0, 0))))) rfl rfl (by kernel_rfl) (by kernel_rfl) (by kernel_rfl) (by show (if false = true then _ else _); rw [if_neg (by decide)]; exact ⟨ap_b (below_drew (Below.refl _ _)) HB, blk_b (below_drew (Below.refl _ _)) Bxb, row_b (below_drew (Below.refl _ _)) Bfb, row_b (below_drew (Below.refl _ _)) Bbb, row_b (below_drew (Below.refl _ _)) Brb, blk_b (below_drew (Below.refl _ _)) Bs, blk_b (below_drew (Below.refl _ _)) Bp5⟩) ?_ ?_
      · intro o_ hi
        match o_, hi with
        | 0, _ =>
          intro b a wq hI hbi_ hb_ hoff_
          have e0 : a.eval (.tmp 0) = .pointer (some ⟨xb, 0, none⟩) := hI.old 0 (by decide) rfl
          have s0 := sv_ e0
          have hJ := hI.j
          exact op_keep hI (i := 0) (jk_ hJ (by decide)) (hrun := gs_)
        | 1, _ =>
          intro b a wq hI hbi_ hb_ hoff_
          have e0 : a.eval (.tmp 0) = .pointer (some ⟨xb, 0, none⟩) := hI.old 0 (by decide) rfl
          have s0 := sv_ e0
          have hJ := hI.j
          exact op_keep hI (i := 1) (jk_ hJ (by decide)) (hrun := gs_)
        | 2, _ =>
          intro b a wq hI hbi_ hb_ hoff_
          have e30 := hI.new 30 1 (by decide) (hb_ 1 (by decide)) rfl fun _ h => h
          have s30 := sv_ e30
          have hJ := hI.j
          exact op_keep hI (i := 2) (jk_ hJ (by decide)) (hrun := gs_)
        | 3, _ =>
          intro b a wq hI hbi_ hb_ hoff_
          have e31 := hI.new 31 2 (by decide) (hb_ 2 (by decide)) rfl fun _ h => h
          have s31 := sv_ e31
          have hJ := hI.j
          exact op_keep hI (i := 3) (jk_ hJ (by decide)) (hrun := gs_)
        | 4, _ =>
          intro b a wq hI hbi_ hb_ hoff_
          have e32 := hI.new 32 3 (by decide) (hb_ 3 (by decide)) rfl fun _ h => h
          have s32 := sv_ e32
          have hJ := hI.j
          exact op_keep hI (i := 4) (jk_ hJ (by decide)) (hrun := gs_)
        | 5, _ =>
          intro b a wq hI hbi_ hb_ hoff_
          have e33 := hI.new 33 4 (by decide) (hb_ 4 (by decide)) rfl fun _ h => h
          have s33 := sv_ e33
          have hJ := hI.j
          obtain ⟨HBq, qxb, qfb, qbb, qrb, qs, qp5⟩ := j0_ hJ (hoff_ 14 (by decide))
          obtain ⟨cxb_0, cxb_1, cxb_2, cxb_3, cxb_4, cxb_5, cxb_6, cxb_7, cxb_8, cxb_9⟩ := cells10 qxb.out; 
          exact op_keep hI (i := 5) (jk_ hJ (by decide)) (hrun := gs_)
        | 6, _ =>
          intro b a wq hI hbi_ hb_ hoff_
          have e5 : a.eval (.tmp 5) = .pointer (some ⟨p5, 0, none⟩) := hI.old 5 (by decide) rfl
          have s5 := sv_ e5
          have hJ := hI.j
          exact op_keep hI (i := 6) (jk_ hJ (by decide)) (hrun := gs_)
        | 7, _ =>
          intro b a wq hI hbi_ hb_ hoff_
          have e35 := hI.new 35 6 (by decide) (hb_ 6 (by decide)) rfl fun _ h => h
          have s35 := sv_ e35
          have hJ := hI.j
          exact op_keep hI (i := 7) (jk_ hJ (by decide)) (hrun := gs_)
        | 8, _ =>
          intro b a wq hI hbi_ hb_ hoff_
          have e36 := hI.new 36 7 (by decide) (hb_ 7 (by decide)) rfl fun _ h => h
          have s36 := sv_ e36
          have hJ := hI.j
          obtain ⟨HBq, qxb, qfb, qbb, qrb, qs, qp5⟩ := j0_ hJ (hoff_ 14 (by decide))
          obtain ⟨cp5_0, cp5_1, cp5_2⟩ := cells3 qp5.out; 
          exact op_keep hI (i := 8) (jk_ hJ (by decide)) (hrun := gs_)
        | 9, _ =>
          intro b a wq hI hbi_ hb_ hoff_
          have e34 := hI.new 34 5 (by decide) (hb_ 5 (by decide)) rfl fun _ h => h
          have s34 := sv_ e34
          have e37 := hI.new 37 8 (by decide) (hb_ 8 (by decide)) rfl fun _ h => h
          have s37 := sv_ e37
          have hJ := hI.j
          exact op_keep hI (i := 9) (jk_ hJ (by decide)) (hrun := gs_)
        | 10, _ =>
          intro b a wq hI hbi_ hb_ hoff_
          have e38 := hI.new 38 9 (by decide) (hb_ 9 (by decide)) rfl fun _ h => h
          have s38 := sv_ e38
          have hJ := hI.j
          exact op_keep hI (i := 10) (jk_ hJ (by decide)) (hrun := gs_)
        | 11, _ =>
          intro b a wq hI hbi_ hb_ hoff_
          have e29 := hI.new 29 0 (by decide) (hb_ 0 (by decide)) rfl fun _ h => h
          have s29 := sv_ e29
          have hJ := hI.j
          exact op_keep hI (i := 11) (jk_ hJ (by decide)) (hrun := gs_)
        | 12, _ =>
          intro b a wq hI hbi_ hb_ hoff_
          have e40 := hI.new 40 11 (by decide) (hb_ 11 (by decide)) rfl fun _ h => h
          have s40 := sv_ e40
          have hJ := hI.j
          exact op_keep hI (i := 12) (jk_ hJ (by decide)) (hrun := gs_)
        | 13, _ =>
          intro b a wq hI hbi_ hb_ hoff_
          have e41 := hI.new 41 12 (by decide) (hb_ 12 (by decide)) rfl fun _ h => h
          have s41 := sv_ e41
          have hJ := hI.j
          exact op_keep hI (i := 13) (jk_ hJ (by decide)) (hrun := gs_)
        | 14, _ =>
          intro b a wq hI hbi_ hb_ hoff_
          have e42 := hI.new 42 13 (by decide) (hb_ 13 (by decide)) rfl fun _ h => h
          have s42 := sv_ e42
          have e39 := hI.new 39 10 (by decide) (hb_ 10 (by decide)) rfl fun _ h => h
          have s39 := sv_ e39
          have hJ := hI.j
          obtain ⟨HBq, qxb, qfb, qbb, qrb, qs, qp5⟩ := j0_ hJ hbi_
          obtain ⟨cxb_0, cxb_1, cxb_2, cxb_3, cxb_4, cxb_5, cxb_6, cxb_7, cxb_8, cxb_9⟩ := cells10 qxb.out; 
          obtain ⟨cs_0, cs_1, cs_2, cs_3⟩ := cells4 qs.out; 
          obtain ⟨cp5_0, cp5_1, cp5_2⟩ := cells3 qp5.out; 
          refine ⟨_, rfl, rfl, fun K hK => ?_⟩
          obtain ⟨w2, hrun2, hbox2, ho2⟩ := run_cellstore (P := Try.prog) (ty := 3) qxb.out 8 (.int .i64 (mn 68719476736 (wrap64 (m + (rd_T140 l3 i).f1.f1)))) (by kernel_rfl) (by simp) (by simp [Value.oneCell']) rfl (cells := #[.slice A0 l0.length c0, .slice A1 l1.length c1, .slice A2 l2.length c2, .slice (some ad) l3.length c3, .slice A4 l4.length c4, .slice (some ⟨fb, 0, none⟩) l0.length cF, .slice (some ⟨bb, 0, none⟩) l0.length cB, vR, .int .i64 ((mn 68719476736 (wrap64 (m + (rd_T140 l3 i).f1.f1)))), .bool (false || fs)]) rfl
          refine skip_ rfl rfl (w1 := w2) (by unfold execOp; simp [e42, e39, hrun2]) (hK undef _ (by show (if up b 14 14 = true then _ else _); rw [up_self, if_pos rfl]; exact ⟨⟨Apart.only HBq.out ho2 (Or.inl rfl)⟩, ⟨hbox2⟩, ⟨Row.only qfb.out ho2 (Ne.symm N_xb_fb.out)⟩, ⟨Row.only qbb.out ho2 (Ne.symm N_xb_bb.out)⟩, ⟨Row.only qrb.out ho2 (Ne.symm N_xb_rb.out)⟩, ⟨Only.blk ho2 qs.out (Ne.symm N_xb_s.out)⟩⟩) (fun _ _ h => h) trivial)
        | o_ + 15, hi => exact absurd hi (by omega)
      intro vs wn b_ hall hJ hT
      replace hJ := j1_ hJ (hall 14 (by decide))
      obtain ⟨HJ0, HT0⟩ : Aside0 _ ∧ Aside0 _ := ⟨⟨hJ⟩, ⟨hT⟩⟩
      clear hall hJ hT
      simp only [fillAll, show List.range 15 = [0, 1, 2, 3, 4, 5, 6, 7, 8, 9, 10, 11, 12, 13, 14] from rfl]
      rw [show vs 0 = _ from HT0.out 0 (by decide) (by decide), show vs 1 = _ from HT0.out 1 (by decide) (by decide), show vs 2 = _ from HT0.out 2 (by decide) (by decide), show vs 3 = _ from HT0.out 3 (by decide) (by decide), show vs 4 = _ from HT0.out 4 (by decide) (by decide), show vs 5 = _ from HT0.out 5 (by decide) (by decide), show vs 6 = _ from HT0.out 6 (by decide) (by decide), show vs 7 = _ from HT0.out 7 (by decide) (by decide), show vs 8 = _ from HT0.out 8 (by decide) (by decide), show vs 9 = _ from HT0.out 9 (by decide) (by decide), show vs 10 = _ from HT0.out 10 (by decide) (by decide), show vs 11 = _ from HT0.out 11 (by decide) (by decide), show vs 12 = _ from HT0.out 12 (by decide) (by decide), show vs 13 = _ from HT0.out 13 (by decide) (by decide)]
      simp only [Act.put, List.setIfInBounds_toArray, List.set_cons_zero, List.set_cons_succ]
      clear HB Bxb Bfb Bbb Brb Bs
      obtain ⟨HB, Bxb, Bfb, Bbb, Brb, Bs⟩ := HJ0.out
      clear HJ0 HT0
      have hm3 := HM.out.2.2.2.1
      go_wp2
      go_roundg (l3.length - (i + 1).toNat)
      case measure => have := Hn.out; omega
      case rel => exact ⟨i + 1, _, by omega, rfl, by omega, rfl, ⟨by rw [HE.out, HD.out, begS]⟩, HB, Bxb, Bfb, Bbb, Brb, Bs⟩
    · have HE0 : Aside0 (begS l3 mo = m) := ⟨by rw [HE.out, List.drop_eq_nil_of_le (by omega)]; rfl⟩
      go_wp2
      go_end0
      exact ⟨⟨_, rfl⟩, (ap_r HB), ⟨by rw [HE0.out]; exact Bxb.out, Bfb.out, Bbb.out, Brb.out⟩⟩
theorem begin_any (hE : Env w0 w xb fb bb rb A0 A1 A2 A3 A4 c0 c1 c2 c3 c4 l0 l1 l2 l3 l4) (hS : Sys xb fb bb rb A0 A1 A2 A3 A4 c0 c1 c2 c3 c4 cF cB vR l0 l1 l2 l3 l4 F Bd Rm mo fl w) :
    Calls Try.prog 141 #[.pointer (some ⟨xb, 0, none⟩), .agg #[.int .i64 tk, .int .i64 he, .slice As sh.length cs, .bool fs]] w fun e w' => (∃ v, e = .returned v) ∧ Apart xb fb bb rb w w' ∧ Sys xb fb bb rb A0 A1 A2 A3 A4 c0 c1 c2 c3 c4 cF cB vR l0 l1 l2 l3 l4 F Bd Rm (begS l3 mo) (fl || fs) w' := by
  cases fl
  · exact begin_false hE hS
  · exact begin_true hE hS
end
end Go.Proofs.Ytkhnhkjihhhbbaa.P

namespace Go.Proofs.Ytkhnhkjihhhbbaa.P
open Go.RowKit Go.Proofs.YtkhnhkjihhhbbaaW.PrintWords Go.Proofs.YtkhnhkjihhhbbaaW.PrintLast Go.Proofs.YtkhnhkjihhhbbaaW.PrintMore
set_option linter.unusedVariables false
set_option linter.unusedSimpArgs false
/-- What a map of ranges has at k. -/
def lk (L : List (Int × S32)) (k : Int) : S32 := (mget L k).getD ⟨0, 0⟩
section
variable {ops : Array Oper} {rest : List Oper} {o : Oper} {a : Act} {Q : Exit → Act → World → Prop} {b : Nat} {L : List (Int × S32)} {W : World}
theorem lk_event (hgd : o.guard = none) (m x : Operand) (hop : o.op = .lookup 159 m x false) (hm : a.eval m = .map (some b)) (k : Int) (hx : a.eval x = .int .i64 k) (hI : IsMap .i64 rangeV W b L)
    (h : wpList Try.prog ops Q rest (a.put o.dst (.agg #[.int .i64 (lk L k).f0, .int .i64 (lk L k).f1])) W) : wpList Try.prog ops Q (o :: rest) a W := by
  have hz : (zeroValue 32).run Try.prog W = .ok (.agg #[.int .i64 0, .int .i64 0]) W := by kernel_rfl
  refine lookup_event (P := Try.prog) (K := 3) (E := 32) hgd 159 m x hop hm k hx hI Try.underlying159 Try.underlying3 hz ?_
  unfold lk at h
  cases hg : mget L k with
  | none => rw [hg] at h; exact h
  | some v => rw [hg] at h; exact h
theorem gate_update {t : Tmp} {k v : Operand} (_ho : o.op = .mapUpdate 159 (.tmp t) k v) (h : wpList Try.prog ops Q (o :: rest) a W) : wpList Try.prog ops Q (o :: rest) a W := h
theorem upd_event (hgd : o.guard = none) (hN : o.dst = none) (m x v : Operand) (hop : o.op = .mapUpdate 159 m x v) (hm : a.eval m = .map (some b)) (k : Int) (hx : a.eval x = .int .i64 k) (r : S32) (hv : a.eval v = .agg #[.int .i64 r.f0, .int .i64 r.f1]) (hI : IsMap .i64 rangeV W b L)
    (h : ∀ w1, IsMap .i64 rangeV w1 b (mput L k r) → Only b W w1 → wpList Try.prog ops Q rest a w1) : wpList Try.prog ops Q (o :: rest) a W := by
  obtain ⟨w1, hrun, hm1, ho1⟩ := run_mapUpdate (P := Try.prog) (T := 159) (K := 3) (E := 32) hI Try.underlying159 Try.underlying3 k r
  change (Instr.mapUpdate 159 (.map (some b)) (.int .i64 k) (.agg #[.int .i64 r.f0, .int .i64 r.f1])).run Try.prog W = _ at hrun
  have hr : (execOp a.eval o).run Try.prog W = .ok .skip w1 := by unfold execOp; simp [hop, hm, hx, hv, hrun]
  refine wpList_plain hgd fun K hK => ?_
  unfold Oper.wp
  rw [hr]
  show K (a.put o.dst undef) w1
  rw [hN]
  exact hK _ _ (h _ hm1 ho1)
end
theorem map_g {kk : IntKind} {β : Type} {enc : β → Value} {W W' w2 : World} {b g : Nat} {L : List (Int × β)} (ho : World.grownBy W' w2 (some g)) (h : Aside0 (IsMap kk enc W b L)) (hne : b ≠ g) (h4 : W'.heap = W.heap := by exact rfl) : Aside0 (IsMap kk enc w2 b L) := blk_g ho h hne h4
theorem lk_run {L : List (Int × S32)} {w : World} {b : Nat} (h : IsMap .i64 rangeV w b L) (k : Int) : (Instr.lookup 159 (.map (some b)) (.int .i64 k) false).run Try.prog w = .ok (.agg #[.int .i64 (lk L k).f0, .int .i64 (lk L k).f1]) w := by
  have hz : (zeroValue 32).run Try.prog w = .ok (.agg #[.int .i64 0, .int .i64 0]) w := by kernel_rfl
  rw [run_lookup (P := Try.prog) (T := 159) (K := 3) (E := 32) h Try.underlying159 Try.underlying3 hz k]
  unfold lk
  cases mget L k <;> rfl
theorem Apart.grownBy {m : Nat} {w w' : World} (h : Apart m m m m w w') : w.grownBy w' (some m) := ⟨h.os, h.tape, h.output, h.size, fun k hk hne => h.block k hk (fun e => hne (by rw [e])) (fun e => hne (by rw [e])) (fun e => hne (by rw [e])) (fun e => hne (by rw [e]))⟩
/-- What comes from vessel fr to vessel to. -/
def comeS (F : List S32) (M : List (Int × S32)) (tv fr : Int) (p : S32) : List (Int × S32) := mput M tv (addR (lk M tv) ⟨wrap64 ((rd_T32 F fr).f0 * p.f0), wrap64 ((rd_T32 F fr).f1 * p.f1)⟩)
section
variable {w0 w : World} {xb fb bb rb : Nat} {A0 A1 A2 A3 A4 As : Option Addr} {c0 c1 c2 c3 c4 cF cB cs : Nat} {vR : Value} {l0 : List S36} {l1 : List S138} {l2 : List S112} {l3 : List S140} {l4 : List S142} {F Bd Rm : List S32} {mo tk he : Int} {fl fs : Bool} {sh : List Int}
set_option maxHeartbeats 8000000 in
set_option maxRecDepth 100000 in
theorem come_any {mm p2 p5 : Nat} {M : List (Int × S32)} (tv fr : Int) (p : S32) (hb1 : w.heap[xb]? = some (.cells #[.slice A0 l0.length c0, .slice A1 l1.length c1, .slice A2 l2.length c2, .slice A3 l3.length c3, .slice A4 l4.length c4, .slice (some ⟨fb, 0, none⟩) l0.length cF, .slice (some ⟨bb, 0, none⟩) l0.length cB, vR, .int .i64 mo, .bool fl] 119 (0, 0))) (hb2 : Row w fb (.slice (some ⟨fb, 0, none⟩) l0.length cF) (F)) (hb3 : IsMap .i64 rangeV w mm (M)) (hb4 : w.heap[p2]? = some (.cells #[.pointer (some ⟨xb, 0, none⟩)] 114 (0, 0))) (hb5 : w.heap[p5]? = some (.cells #[.map (some mm)] 159 (0, 0)))
    (hf0 : 0 ≤ fr) (hf1 : fr < l0.length) (n1 : xb ≠ mm) (n2 : fb ≠ mm) (n3 : mm ≠ p2) (n4 : mm ≠ p5) :
    Calls Try.prog 154 #[.int .i64 tv, .int .i64 fr, .agg #[.int .i64 p.f0, .int .i64 p.f1], .pointer (some ⟨p2, 0, none⟩), .pointer (some ⟨p5, 0, none⟩)] w fun e w' => (∃ v, e = .returned v) ∧ w.grownBy w' (some mm) ∧ IsMap .i64 rangeV w' mm (comeS F M tv fr p) := by
  have HX : Aside0 (xb < w.heap.size ∧ fb < w.heap.size) := ⟨blk_lt hb1, Row.size hb2 (by have := (Row.le hb2).1; omega)⟩
  have N_xb_mm := Aside0.mk n1
  have N_fb_mm := Aside0.mk n2
  have N_mm_p2 := Aside0.mk n3
  have N_mm_p5 := Aside0.mk n4
  have Bxb := Aside0.mk hb1
  have Bfb := Aside0.mk hb2
  have Bmm := Aside0.mk hb3
  have Bp2 := Aside0.mk hb4
  have Bp5 := Aside0.mk hb5
  clear hb1 hb2 hb3 hb4 hb5 n1 n2 n3 n4
  have HB : Aside0 (Apart mm mm mm mm w w) := ⟨Apart.refl w⟩
  obtain ⟨cxb_0, cxb_1, cxb_2, cxb_3, cxb_4, cxb_5, cxb_6, cxb_7, cxb_8, cxb_9⟩ := cells10 Bxb.out; 
  obtain ⟨cfb_0, dfb_0⟩ := Row.cells Bfb.out fr hf0 hf1; 
  have cp2_0 := cells1 Bp2.out; 
  have cp5_0 := cells1 Bp5.out; 
  go_enter Try.func154, Try.ntmps154
  go_wp2_with (first | ((with_reducible refine gate_dst (N := 7) rfl ?_); go_must (refine box_ev (N := 7) (cs := #[.int .i64 p.f0, .int .i64 p.f1]) (t := 32) (h := ?_); intro q7 hgq7 w1 hbox hb; have GEq7 := ge_newx HB hgq7; have N_xb_q7 := ne_newx HX.out.1 HB hgq7; have N_fb_q7 := ne_newx HX.out.2 HB hgq7; have N_mm_q7 := ne_new Bmm hgq7; have N_p2_q7 := ne_new Bp2 hgq7; have N_p5_q7 := ne_new Bp5 hgq7; replace HB := ap_b hb HB; replace Bxb := blk_b hb Bxb; (try clear cxb_0 cxb_1 cxb_2 cxb_3 cxb_4 cxb_5 cxb_6 cxb_7 cxb_8 cxb_9); obtain ⟨cxb_0, cxb_1, cxb_2, cxb_3, cxb_4, cxb_5, cxb_6, cxb_7, cxb_8, cxb_9⟩ := cells10 Bxb.out; replace Bfb := row_b hb Bfb; (try clear cfb_0 dfb_0); obtain ⟨cfb_0, dfb_0⟩ := Row.cells Bfb.out fr hf0 hf1; replace Bmm := map_b hb Bmm; replace Bp2 := blk_b hb Bp2; (try clear cp2_0); have cp2_0 := cells1 Bp2.out; replace Bp5 := blk_b hb Bp5; (try clear cp5_0); have cp5_0 := cells1 Bp5.out; have Bq7 := Aside0.mk hbox; clear hbox; obtain ⟨cq7_0, cq7_1⟩ := cells2 Bq7.out; (try clear hb); clear hgq7)) | ((with_reducible refine gate_dst (N := 8) rfl ?_); go_must (refine box_ev (N := 8) (cs := #[.int .i64 0, .int .i64 0]) (t := 32) (h := ?_); intro q8 hgq8 w2 hbox hb; have GEq8 := ge_newx HB hgq8; have N_xb_q8 := ne_newx HX.out.1 HB hgq8; have N_fb_q8 := ne_newx HX.out.2 HB hgq8; have N_mm_q8 := ne_new Bmm hgq8; have N_p2_q8 := ne_new Bp2 hgq8; have N_p5_q8 := ne_new Bp5 hgq8; have N_q7_q8 := ne_new Bq7 hgq8; replace HB := ap_b hb HB; replace Bxb := blk_b hb Bxb; (try clear cxb_0 cxb_1 cxb_2 cxb_3 cxb_4 cxb_5 cxb_6 cxb_7 cxb_8 cxb_9); obtain ⟨cxb_0, cxb_1, cxb_2, cxb_3, cxb_4, cxb_5, cxb_6, cxb_7, cxb_8, cxb_9⟩ := cells10 Bxb.out; replace Bfb := row_b hb Bfb; (try clear cfb_0 dfb_0); obtain ⟨cfb_0, dfb_0⟩ := Row.cells Bfb.out fr hf0 hf1; replace Bmm := map_b hb Bmm; replace Bp2 := blk_b hb Bp2; (try clear cp2_0); have cp2_0 := cells1 Bp2.out; replace Bp5 := blk_b hb Bp5; (try clear cp5_0); have cp5_0 := cells1 Bp5.out; replace Bq7 := blk_b hb Bq7; (try clear cq7_0 cq7_1); obtain ⟨cq7_0, cq7_1⟩ := cells2 Bq7.out; have Bq8 := Aside0.mk hbox; clear hbox; obtain ⟨cq8_0, cq8_1⟩ := cells2 Bq8.out; (try clear hb); clear hgq8)) | ((with_reducible refine gate_store (t := 32) (p := 8) rfl ?_); go_must (refine row_ev q8 #[.int .i64 (rd_T32 F fr).f0, .int .i64 (rd_T32 F fr).f1] Bq8.out (h := ?_); intro w3 hbox ho_; replace HB := ap_o ho_ HB (Or.inr (Or.inr (Or.inr (Or.inr GEq8.out)))); replace Bxb := blk_o ho_ Bxb (by first | exact N_xb_q8.out | exact N_q8_xb.out.symm); (try clear cxb_0 cxb_1 cxb_2 cxb_3 cxb_4 cxb_5 cxb_6 cxb_7 cxb_8 cxb_9); obtain ⟨cxb_0, cxb_1, cxb_2, cxb_3, cxb_4, cxb_5, cxb_6, cxb_7, cxb_8, cxb_9⟩ := cells10 Bxb.out; replace Bfb := row_o ho_ Bfb (by first | exact N_fb_q8.out | exact N_q8_fb.out.symm); (try clear cfb_0 dfb_0); obtain ⟨cfb_0, dfb_0⟩ := Row.cells Bfb.out fr hf0 hf1; replace Bmm := map_o ho_ Bmm (by first | exact N_mm_q8.out | exact N_q8_mm.out.symm); replace Bp2 := blk_o ho_ Bp2 (by first | exact N_p2_q8.out | exact N_q8_p2.out.symm); (try clear cp2_0); have cp2_0 := cells1 Bp2.out; replace Bp5 := blk_o ho_ Bp5 (by first | exact N_p5_q8.out | exact N_q8_p5.out.symm); (try clear cp5_0); have cp5_0 := cells1 Bp5.out; replace Bq7 := blk_o ho_ Bq7 (by first | exact N_q7_q8.out | exact N_q8_q7.out.symm); (try clear cq7_0 cq7_1); obtain ⟨cq7_0, cq7_1⟩ := cells2 Bq7.out; replace Bq8 := Aside0.mk hbox; clear hbox ho_; (try clear cq8_0 cq8_1); obtain ⟨cq8_0, cq8_1⟩ := cells2 Bq8.out; )))
  refine region_ri (n := 18) (B := [0, 0, 0, 0, 12, 0, 32, 0, 128, 480, 0, 1024, 0, 4096, 15360, 32736, 65532, 131071]) (fun o_ => match o_ with | 0 => some 17 | 1 => some 18 | 2 => some 19 | 3 => some 20 | 4 => some 21 | 5 => some 22 | 6 => some 23 | 7 => some 24 | 8 => some 25 | 9 => some 26 | 10 => some 27 | 11 => some 28 | 12 => some 29 | 13 => some 30 | 14 => some 31 | 15 => some 32 | 16 => some 33 | 17 => none | _ => none) (fun o_ q_ w' => match o_ with | 0 => q_ = .map (some mm) | 1 => q_ = .int .i64 tv | 2 => q_ = .map (some mm) | 3 => q_ = .int .i64 tv | 4 => q_ = .agg #[.int .i64 (lk M tv).f0, .int .i64 (lk M tv).f1] | 5 => q_ = .pointer (some ⟨q8, 0, none⟩) | 6 => q_ = .int .i64 (rd_T32 F fr).f0 | 7 => q_ = .pointer (some ⟨q7, 0, none⟩) | 8 => q_ = .int .i64 p.f0 | 9 => q_ = .int .i64 (wrap64 ((rd_T32 F fr).f0 * p.f0)) | 10 => q_ = .pointer (some ⟨q8, 1, none⟩) | 11 => q_ = .int .i64 (rd_T32 F fr).f1 | 12 => q_ = .pointer (some ⟨q7, 1, none⟩) | 13 => q_ = .int .i64 p.f1 | 14 => q_ = .int .i64 (wrap64 ((rd_T32 F fr).f1 * p.f1)) | 15 => q_ = .agg #[.int .i64 (wrap64 ((rd_T32 F fr).f0 * p.f0)), .int .i64 (wrap64 ((rd_T32 F fr).f1 * p.f1))] | 16 => q_ = .agg #[.int .i64 (wrap64 ((lk M tv).f0 + (wrap64 ((rd_T32 F fr).f0 * p.f0)))), .int .i64 (wrap64 ((lk M tv).f1 + (wrap64 ((rd_T32 F fr).f1 * p.f1))))] | _ => True) (fun b w' => if b 17 = true then (Aside0 (Apart mm mm mm mm w w') ∧ Aside0 (IsMap .i64 rangeV w' mm (comeS F M tv fr p))) else (Aside0 (Apart mm mm mm mm w w') ∧ Aside0 (w'.heap[xb]? = some (.cells #[.slice A0 l0.length c0, .slice A1 l1.length c1, .slice A2 l2.length c2, .slice A3 l3.length c3, .slice A4 l4.length c4, .slice (some ⟨fb, 0, none⟩) l0.length cF, .slice (some ⟨bb, 0, none⟩) l0.length cB, vR, .int .i64 mo, .bool fl] 119 (0, 0))) ∧ Aside0 (Row w' fb (.slice (some ⟨fb, 0, none⟩) l0.length cF) (F)) ∧ Aside0 (IsMap .i64 rangeV w' mm (M)) ∧ Aside0 (w'.heap[p2]? = some (.cells #[.pointer (some ⟨xb, 0, none⟩)] 114 (0, 0))) ∧ Aside0 (w'.heap[p5]? = some (.cells #[.map (some mm)] 159 (0, 0))) ∧ Aside0 (w'.heap[q7]? = some (.cells #[.int .i64 p.f0, .int .i64 p.f1] 32 (0, 0))) ∧ Aside0 (w'.heap[q8]? = some (.cells #[.int .i64 (rd_T32 F fr).f0, .int .i64 (rd_T32 F fr).f1] 32 (0, 0))))) rfl rfl (by kernel_rfl) (by kernel_rfl) (by kernel_rfl) (by show (if false = true then _ else _); rw [if_neg (by decide)]; exact ⟨ap_b (below_drew (Below.refl _ _)) HB, blk_b (below_drew (Below.refl _ _)) Bxb, row_b (below_drew (Below.refl _ _)) Bfb, map_b (below_drew (Below.refl _ _)) Bmm, blk_b (below_drew (Below.refl _ _)) Bp2, blk_b (below_drew (Below.refl _ _)) Bp5, blk_b (below_drew (Below.refl _ _)) Bq7, blk_b (below_drew (Below.refl _ _)) Bq8⟩) ?_ ?_
  · intro o_ hi
    match o_, hi with
    | 0, _ =>
      intro b a wq hI hbi_ hb_ hoff_
      have e4 : a.eval (.tmp 4) = .pointer (some ⟨p5, 0, none⟩) := hI.old 4 (by decide) rfl
      have s4 := sv_ e4
      have hJ := hI.j
      obtain ⟨HBq, qxb, qfb, qmm, qp2, qp5, qq7, qq8⟩ := j0_ hJ (hoff_ 17 (by decide))
      have cp5_0 := cells1 qp5.out; 
      exact op_keep hI (i := 0) (jk_ hJ (by decide)) (hrun := gs_)
    | 1, _ =>
      intro b a wq hI hbi_ hb_ hoff_
      have e0 : a.eval (.tmp 0) = .int .i64 tv := hI.old 0 (by decide) rfl
      have s0 := sv_ e0
      have hJ := hI.j
      exact op_keep hI (i := 1) (jk_ hJ (by decide)) (hrun := gs_)
    | 2, _ =>
      intro b a wq hI hbi_ hb_ hoff_
      have e4 : a.eval (.tmp 4) = .pointer (some ⟨p5, 0, none⟩) := hI.old 4 (by decide) rfl
      have s4 := sv_ e4
      have hJ := hI.j
      obtain ⟨HBq, qxb, qfb, qmm, qp2, qp5, qq7, qq8⟩ := j0_ hJ (hoff_ 17 (by decide))
      have cp5_0 := cells1 qp5.out; 
      exact op_keep hI (i := 2) (jk_ hJ (by decide)) (hrun := gs_)
    | 3, _ =>
      intro b a wq hI hbi_ hb_ hoff_
      have e0 : a.eval (.tmp 0) = .int .i64 tv := hI.old 0 (by decide) rfl
      have s0 := sv_ e0
      have hJ := hI.j
      exact op_keep hI (i := 3) (jk_ hJ (by decide)) (hrun := gs_)
    | 4, _ =>
      intro b a wq hI hbi_ hb_ hoff_
      have e19 := hI.new 19 2 (by decide) (hb_ 2 (by decide)) rfl fun _ h => h
      have s19 := sv_ e19
      have e20 := hI.new 20 3 (by decide) (hb_ 3 (by decide)) rfl fun _ h => h
      have s20 := sv_ e20
      have hJ := hI.j
      obtain ⟨HBq, qxb, qfb, qmm, qp2, qp5, qq7, qq8⟩ := j0_ hJ (hoff_ 17 (by decide))
      obtain ⟨cxb_0, cxb_1, cxb_2, cxb_3, cxb_4, cxb_5, cxb_6, cxb_7, cxb_8, cxb_9⟩ := cells10 qxb.out; 
      obtain ⟨cfb_0, dfb_0⟩ := Row.cells qfb.out fr hf0 hf1; 
      have cp2_0 := cells1 qp2.out; 
      have cp5_0 := cells1 qp5.out; 
      obtain ⟨cq7_0, cq7_1⟩ := cells2 qq7.out; 
      obtain ⟨cq8_0, cq8_1⟩ := cells2 qq8.out; 
      refine ⟨_, rfl, rfl, fun K hK => ?_⟩
      have hl2 := lk_run qmm.out tv
      refine value_ (N := some 21) rfl rfl (v := .agg #[.int .i64 (lk M tv).f0, .int .i64 (lk M tv).f1]) (w1 := wq) (by unfold execOp; simp [e19, e20, hl2]) (hK _ _ (jk_ hJ (by decide)) (fun _ _ h => h) rfl)
    | 5, _ =>
      intro b a wq hI hbi_ hb_ hoff_
      have e8 : a.eval (.tmp 8) = .pointer (some ⟨q8, 0, none⟩) := hI.old 8 (by decide) rfl
      have s8 := sv_ e8
      have hJ := hI.j
      exact op_keep hI (i := 5) (jk_ hJ (by decide)) (hrun := gs_)
    | 6, _ =>
      intro b a wq hI hbi_ hb_ hoff_
      have e22 := hI.new 22 5 (by decide) (hb_ 5 (by decide)) rfl fun _ h => h
      have s22 := sv_ e22
      have hJ := hI.j
      obtain ⟨HBq, qxb, qfb, qmm, qp2, qp5, qq7, qq8⟩ := j0_ hJ (hoff_ 17 (by decide))
      obtain ⟨cq8_0, cq8_1⟩ := cells2 qq8.out; 
      exact op_keep hI (i := 6) (jk_ hJ (by decide)) (hrun := gs_)
    | 7, _ =>
      intro b a wq hI hbi_ hb_ hoff_
      have e7 : a.eval (.tmp 7) = .pointer (some ⟨q7, 0, none⟩) := hI.old 7 (by decide) rfl
      have s7 := sv_ e7
      have hJ := hI.j
      exact op_keep hI (i := 7) (jk_ hJ (by decide)) (hrun := gs_)
    | 8, _ =>
      intro b a wq hI hbi_ hb_ hoff_
      have e24 := hI.new 24 7 (by decide) (hb_ 7 (by decide)) rfl fun _ h => h
      have s24 := sv_ e24
      have hJ := hI.j
      obtain ⟨HBq, qxb, qfb, qmm, qp2, qp5, qq7, qq8⟩ := j0_ hJ (hoff_ 17 (by decide))
      obtain ⟨cq7_0, cq7_1⟩ := cells2 qq7.out; 
      exact op_keep hI (i := 8) (jk_ hJ (by decide)) (hrun := gs_)
    | 9, _ =>
      intro b a wq hI hbi_ hb_ hoff_
      have e23 := hI.new 23 6 (by decide) (hb_ 6 (by decide)) rfl fun _ h => h
      have s23 := sv_ e23
      have e25 := hI.new 25 8 (by decide) (hb_ 8 (by decide)) rfl fun _ h => h
      have s25 := sv_ e25
      have hJ := hI.j
      exact op_keep hI (i := 9) (jk_ hJ (by decide)) (hrun := gs_)
    | 10, _ =>
      intro b a wq hI hbi_ hb_ hoff_
      have e8 : a.eval (.tmp 8) = .pointer (some ⟨q8, 0, none⟩) := hI.old 8 (by decide) rfl
      have s8 := sv_ e8
      have hJ := hI.j
      exact op_keep hI (i := 10) (jk_ hJ (by decide)) (hrun := gs_)
    | 11, _ =>
      intro b a wq hI hbi_ hb_ hoff_
      have e27 := hI.new 27 10 (by decide) (hb_ 10 (by decide)) rfl fun _ h => h
      have s27 := sv_ e27
      have hJ := hI.j
      obtain ⟨HBq, qxb, qfb, qmm, qp2, qp5, qq7, qq8⟩ := j0_ hJ (hoff_ 17 (by decide))
      obtain ⟨cq8_0, cq8_1⟩ := cells2 qq8.out; 
      exact op_keep hI (i := 11) (jk_ hJ (by decide)) (hrun := gs_)
    | 12, _ =>
      intro b a wq hI hbi_ hb_ hoff_
      have e7 : a.eval (.tmp 7) = .pointer (some ⟨q7, 0, none⟩) := hI.old 7 (by decide) rfl
      have s7 := sv_ e7
      have hJ := hI.j
      exact op_keep hI (i := 12) (jk_ hJ (by decide)) (hrun := gs_)
    | 13, _ =>
      intro b a wq hI hbi_ hb_ hoff_
      have e29 := hI.new 29 12 (by decide) (hb_ 12 (by decide)) rfl fun _ h => h
      have s29 := sv_ e29
      have hJ := hI.j
      obtain ⟨HBq, qxb, qfb, qmm, qp2, qp5, qq7, qq8⟩ := j0_ hJ (hoff_ 17 (by decide))
      obtain ⟨cq7_0, cq7_1⟩ := cells2 qq7.out; 
      exact op_keep hI (i := 13) (jk_ hJ (by decide)) (hrun := gs_)
    | 14, _ =>
      intro b a wq hI hbi_ hb_ hoff_
      have e28 := hI.new 28 11 (by decide) (hb_ 11 (by decide)) rfl fun _ h => h
      have s28 := sv_ e28
      have e30 := hI.new 30 13 (by decide) (hb_ 13 (by decide)) rfl fun _ h => h
      have s30 := sv_ e30
      have hJ := hI.j
      exact op_keep hI (i := 14) (jk_ hJ (by decide)) (hrun := gs_)
    | 15, _ =>
      intro b a wq hI hbi_ hb_ hoff_
      have e26 := hI.new 26 9 (by decide) (hb_ 9 (by decide)) rfl fun _ h => h
      have s26 := sv_ e26
      have e31 := hI.new 31 14 (by decide) (hb_ 14 (by decide)) rfl fun _ h => h
      have s31 := sv_ e31
      have hJ := hI.j
      exact op_keep hI (i := 15) (jk_ hJ (by decide)) (hrun := gs_)
    | 16, _ =>
      intro b a wq hI hbi_ hb_ hoff_
      have e21 := hI.new 21 4 (by decide) (hb_ 4 (by decide)) rfl fun _ h => h
      have s21 := sv_ e21
      have e32 := hI.new 32 15 (by decide) (hb_ 15 (by decide)) rfl fun _ h => h
      have s32 := sv_ e32
      have hJ := hI.j
      obtain ⟨HBq, qxb, qfb, qmm, qp2, qp5, qq7, qq8⟩ := j0_ hJ (hoff_ 17 (by decide))
      refine ⟨_, rfl, rfl, fun K hK => ?_⟩
      refine goes_ Try.func128 (by kernel_rfl) rfl #[.agg #[.int .i64 (lk M tv).f0, .int .i64 (lk M tv).f1], .agg #[.int .i64 (wrap64 ((rd_T32 F fr).f0 * p.f0)), .int .i64 (wrap64 ((rd_T32 F fr).f1 * p.f1))]] rfl rfl rfl (by simp [e21, e32]) ?_
      refine (plus_any ⟨(lk M tv).f0, (lk M tv).f1⟩ ⟨(wrap64 ((rd_T32 F fr).f0 * p.f0)), (wrap64 ((rd_T32 F fr).f1 * p.f1))⟩ wq).mono ?_
      rintro e w2 ⟨rfl, hb2⟩
      exact ⟨_, rfl, hK _ _ (j0_up (by decide) (hoff_ 17 (by decide)) ⟨ap_b hb2 HBq, blk_b hb2 qxb, row_b hb2 qfb, map_b hb2 qmm, blk_b hb2 qp2, blk_b hb2 qp5, blk_b hb2 qq7, blk_b hb2 qq8⟩) (fun _ _ h => h) rfl⟩
    | 17, _ =>
      intro b a wq hI hbi_ hb_ hoff_
      have e17 := hI.new 17 0 (by decide) (hb_ 0 (by decide)) rfl fun _ h => h
      have s17 := sv_ e17
      have e18 := hI.new 18 1 (by decide) (hb_ 1 (by decide)) rfl fun _ h => h
      have s18 := sv_ e18
      have e33 := hI.new 33 16 (by decide) (hb_ 16 (by decide)) rfl fun _ h => h
      have s33 := sv_ e33
      have hJ := hI.j
      obtain ⟨HBq, qxb, qfb, qmm, qp2, qp5, qq7, qq8⟩ := j0_ hJ hbi_
      obtain ⟨cxb_0, cxb_1, cxb_2, cxb_3, cxb_4, cxb_5, cxb_6, cxb_7, cxb_8, cxb_9⟩ := cells10 qxb.out; 
      obtain ⟨cfb_0, dfb_0⟩ := Row.cells qfb.out fr hf0 hf1; 
      have cp2_0 := cells1 qp2.out; 
      have cp5_0 := cells1 qp5.out; 
      obtain ⟨cq7_0, cq7_1⟩ := cells2 qq7.out; 
      obtain ⟨cq8_0, cq8_1⟩ := cells2 qq8.out; 
      refine ⟨_, rfl, rfl, fun K hK => ?_⟩
      obtain ⟨w2, hrun2, hm2, ho2⟩ := run_mapUpdate (P := Try.prog) (T := 159) (K := 3) (E := 32) qmm.out Try.underlying159 Try.underlying3 tv (⟨(wrap64 ((lk M tv).f0 + (wrap64 ((rd_T32 F fr).f0 * p.f0)))), (wrap64 ((lk M tv).f1 + (wrap64 ((rd_T32 F fr).f1 * p.f1))))⟩ : S32)
      change (Instr.mapUpdate 159 (.map (some mm)) (.int .i64 tv) (.agg #[.int .i64 (wrap64 ((lk M tv).f0 + (wrap64 ((rd_T32 F fr).f0 * p.f0)))), .int .i64 (wrap64 ((lk M tv).f1 + (wrap64 ((rd_T32 F fr).f1 * p.f1))))])).run Try.prog wq = _ at hrun2
      refine skip_ rfl rfl (w1 := w2) (by unfold execOp; simp [e17, e18, e33, hrun2]) (hK undef _ (by show (if up b 17 17 = true then _ else _); rw [up_self, if_pos rfl]; exact ⟨⟨Apart.only HBq.out ho2 (Or.inl rfl)⟩, ⟨hm2⟩⟩) (fun _ _ h => h) trivial)
    | o_ + 18, hi => exact absurd hi (by omega)
  intro vs wn b_ hall hJ hT
  replace hJ := j1_ hJ (hall 17 (by decide))
  obtain ⟨HJ0, HT0⟩ : Aside0 _ ∧ Aside0 _ := ⟨⟨hJ⟩, ⟨hT⟩⟩
  clear hall hJ hT
  simp only [fillAll, show List.range 18 = [0, 1, 2, 3, 4, 5, 6, 7, 8, 9, 10, 11, 12, 13, 14, 15, 16, 17] from rfl]
  rw [show vs 0 = _ from HT0.out 0 (by decide) (by decide), show vs 1 = _ from HT0.out 1 (by decide) (by decide), show vs 2 = _ from HT0.out 2 (by decide) (by decide), show vs 3 = _ from HT0.out 3 (by decide) (by decide), show vs 4 = _ from HT0.out 4 (by decide) (by decide), show vs 5 = _ from HT0.out 5 (by decide) (by decide), show vs 6 = _ from HT0.out 6 (by decide) (by decide), show vs 7 = _ from HT0.out 7 (by decide) (by decide), show vs 8 = _ from HT0.out 8 (by decide) (by decide), show vs 9 = _ from HT0.out 9 (by decide) (by decide), show vs 10 = _ from HT0.out 10 (by decide) (by decide), show vs 11 = _ from HT0.out 11 (by decide) (by decide), show vs 12 = _ from HT0.out 12 (by decide) (by decide), show vs 13 = _ from HT0.out 13 (by decide) (by decide), show vs 14 = _ from HT0.out 14 (by decide) (by decide), show vs 15 = _ from HT0.out 15 (by decide) (by decide), show vs 16 = _ from HT0.out 16 (by decide) (by decide)]
  simp only [Act.put, List.setIfInBounds_toArray, List.set_cons_zero, List.set_cons_succ]
  clear HB Bxb Bfb Bmm Bp2 Bp5 Bq7 Bq8
  obtain ⟨HB, Bmm⟩ := HJ0.out
  clear HJ0 HT0
  go_wp2
  go_end0
  exact ⟨⟨_, rfl⟩, Apart.grownBy HB.out, Bmm.out⟩
end
end Go.Proofs.Ytkhnhkjihhhbbaa.P

namespace Go.Proofs.Ytkhnhkjihhhbbaa.P
open Go.RowKit Go.Proofs.YtkhnhkjihhhbbaaW.PrintWords Go.Proofs.YtkhnhkjihhhbbaaW.PrintLast Go.Proofs.YtkhnhkjihhhbbaaW.PrintMore
set_option linter.unusedVariables false
set_option linter.unusedSimpArgs false
theorem oc_any (s : Int) (w : World) : Calls Try.prog 108 #[.int .u64 s] w fun e w' => e = .returned (.int .i64 (ocI s)) ∧ Below w.heap.size w w' :=
  (bits_OnesCount.calls s _ w (oc_f s)).mono fun e w' h => ⟨h.1, h.2.below⟩
theorem results_c {P : Program} {fn : Func} {p : Tmp} {ty : TypeId} (h : fn.results = #[.cell p ty]) (tmps : Array Value) (w : World) (g : Nat) (t : TypeId) (cs : Array Value) (fr : Nat × Nat) (d : TypeDesc)
    (hp : tmps.getD p undef = .pointer (some ⟨g, 0, none⟩)) (hg : w.heap[g]? = some (.cells cs t fr))
    (hu : P.underlying ty = some d) (hd : (match d with | .struct _ | .array _ _ => true | _ => false) = true) (hi : (P.info? ty).map (·.size) = some cs.size) :
    (results fn tmps).run P w = .ok (.agg cs) w := by
  have hp' : tmps[p]?.getD undef = .pointer (some ⟨g, 0, none⟩) := by simpa using hp
  simp [results, h, hp', asAddr, run_loadVar_row w g t ty cs fr d hg hu hd hi]
def choiceV (c : Int × Int) : Value := .agg #[.int .i64 c.1, .int .i64 c.2]
def ofs (T : List (Nat × Int)) : List Int := T.map fun t => (t.1 : Int)
/-- What is known already is right. -/
def Known (T : List (Nat × Int)) (L : List (Int × (Int × Int))) : Prop := ∀ (x : Nat) c, mget L (x : Int) = some c → c = best T x
section
variable {ops : Array Oper} {rest : List Oper} {o : Oper} {a : Act} {Q : Exit → Act → World → Prop} {b : Nat} {L : List (Int × (Int × Int))} {W : World}
theorem lko_event (hgd : o.guard = none) (m x : Operand) (hop : o.op = .lookup 169 m x true) (hm : a.eval m = .map (some b)) (k : Int) (hx : a.eval x = .int .u64 k) (hI : IsMap .u64 choiceV W b L) {r : Option (Int × Int)} (hr : mget L k = r)
    (h : wpList Try.prog ops Q rest (a.put o.dst (.tuple #[.agg #[.int .i64 (r.getD (0, 0)).1, .int .i64 (r.getD (0, 0)).2], .bool r.isSome])) W) : wpList Try.prog ops Q (o :: rest) a W := by
  have hz : (zeroValue 130).run Try.prog W = .ok (.agg #[.int .i64 0, .int .i64 0]) W := by kernel_rfl
  refine lookup_ok_event (P := Try.prog) (K := 126) (E := 130) hgd 169 m x hop hm k hx hI Try.underlying169 Try.underlying126 hz ?_
  subst hr
  cases hg : mget L k with
  | none => rw [hg] at h; exact h
  | some v => rw [hg] at h; exact h
end
theorem rowO_apart {w w1 : World} {mm n0 : Nat} {v : Value} {l : List Int} (h : Kd.R (Kd.int .u64) 126 w 0 (fun k_ => k_ ≠ mm ∧ k_ < n0) v l) (ha : Apart mm mm mm mm w w1) : Kd.R (Kd.int .u64) 126 w1 0 (fun k_ => k_ ≠ mm ∧ k_ < n0) v l :=
  Kd.R_step h (fun k hk hl => ha.block k hl hk.1 hk.1 hk.1 hk.1)
theorem rowO_only {w w1 : World} {mm n0 g : Nat} {v : Value} {l : List Int} (h : Kd.R (Kd.int .u64) 126 w 0 (fun k_ => k_ ≠ mm ∧ k_ < n0) v l) (ho : Only g w w1) (hg : n0 ≤ g) : Kd.R (Kd.int .u64) 126 w1 0 (fun k_ => k_ ≠ mm ∧ k_ < n0) v l :=
  Kd.R_step h (fun k hk hl => ho.block k (fun e => by have := hk.2; omega))
theorem mfind_shift {β : Type} (k : Int) : ∀ (L : List (Int × β)) (i : Nat), mfind k L (i + 1) = (mfind k L i).map fun p => (p.1 + 1, p.2)
  | [], _ => rfl
  | e :: L, i => by
    unfold mfind
    split
    · rfl
    · exact mfind_shift k L (i + 1)
theorem mget_cons {β : Type} (e : Int × β) (L : List (Int × β)) (x : Int) : mget (e :: L) x = if e.1 = x then some e.2 else mget L x := by
  unfold mget
  rw [mfind]
  by_cases h : e.1 = x
  · rw [if_pos (by simpa using h), if_pos h]; rfl
  · rw [if_neg (by simpa using h), if_neg h, mfind_shift, Option.map_map]
    rfl
theorem mput_cons {β : Type} (e : Int × β) (L : List (Int × β)) (k : Int) (v : β) : mput (e :: L) k v = if e.1 = k then (k, v) :: L else e :: mput L k v := by
  unfold mput
  rw [mfind]
  by_cases h : e.1 = k
  · rw [if_pos (by simpa using h), if_pos h]; rfl
  · rw [if_neg (by simpa using h), if_neg h, mfind_shift]
    cases mfind k L 0 <;> rfl
theorem mfind_put {β : Type} (k : Int) (v : β) (x : Int) : ∀ (L : List (Int × β)), mget (mput L k v) x = if x = k then some v else mget L x
  | [] => by
    show mget [(k, v)] x = _
    rw [mget_cons]
    by_cases h : x = k
    · rw [if_pos h, if_pos h.symm]
    · rw [if_neg h, if_neg (Ne.symm h)]
  | e :: L => by
    rw [mput_cons]
    by_cases h : e.1 = k
    · rw [if_pos h, mget_cons, mget_cons]
      by_cases hx : x = k
      · rw [if_pos hx, if_pos hx.symm]
      · rw [if_neg hx, if_neg (Ne.symm hx), if_neg (by rw [h]; exact Ne.symm hx)]
    · rw [if_neg h, mget_cons, mget_cons, mfind_put k v x L]
      by_cases hx : x = k
      · rw [if_pos hx, if_neg (by rw [hx]; exact h), if_pos hx]
      · rw [if_neg hx, if_neg hx]
/-- A hunter: its block, the row of the tests' sets, the tests. -/
structure Hun (w0 w : World) (xb mm n0 : Nat) (n : Int) (A1 AO : Option Addr) (c1 cO : Nat) (TT : List S62) (T : List (Nat × Int)) : Prop where
  h0 : Below w0.heap.size w0 w
  s1 : w0.heap.size ≤ xb
  s2 : w0.heap.size ≤ mm
  ne : xb ≠ mm
  bx : w.heap[xb]? = some (.cells #[.int .i64 n, .slice A1 TT.length c1, .slice AO T.length cO, .map (some mm)] 171 (0, 0))
  rO : Kd.R (Kd.int .u64) 126 w 0 (fun k_ => k_ ≠ mm ∧ k_ < n0) (.slice AO T.length cO) (ofs T)
  r1 : Kd.C k62 w0 A1 TT.length TT
  k1 : TT.length ≤ c1
  co : TT.map (·.f1) = T.map (·.2)
  bd : ∀ t ∈ T, t.1 < 4096 ∧ 0 ≤ t.2 ∧ t.2 ≤ 1000
  tl : T.length ≤ 12
  hn : n0 ≤ w.heap.size
def BestAs (T : List (Nat × Int)) (s mm : Nat) (w : World) (e : Ending) (w' : World) : Prop :=
  e = .returned (.agg #[.int .i64 (best T s).1, .int .i64 (best T s).2]) ∧ Apart mm mm mm mm w w' ∧ ∃ L, IsMap .u64 choiceV w' mm L ∧ Known T L
attribute [local go_sem] max2_int min2_int max_two min_two
set_option maxHeartbeats 8000000 in
set_option maxRecDepth 100000 in
theorem best_any {w0 : World} {xb mm n0 : Nat} {n : Int} {A1 AO : Option Addr} {c1 cO : Nat} {TT : List S62} {T : List (Nat × Int)} : ∀ (s : Nat), s < 4096 → ∀ (w : World) (L : List (Int × (Int × Int))), Hun w0 w xb mm n0 n A1 AO c1 cO TT T → IsMap .u64 choiceV w mm (L) → Known T L →
    Calls Try.prog 81 #[.pointer (some ⟨xb, 0, none⟩), .int .u64 (s : Int)] w (BestAs T s mm w) := by
  intro s
  induction s using Nat.strongRecOn with
  | ind s ih =>
  intro hs w L hH hM hG
  have HH := Aside0.mk hH
  have HI : Aside0 (∀ x, x < s → ∀ (w : World) (L : List (Int × (Int × Int))), Hun w0 w xb mm n0 n A1 AO c1 cO TT T → IsMap .u64 choiceV w mm (L) → Known T L → Calls Try.prog 81 #[.pointer (some ⟨xb, 0, none⟩), .int .u64 (x : Int)] w (BestAs T x mm w)) := ⟨fun x hx => ih x hx (by omega)⟩
  have HS := Aside0.mk hs
  have HN0 := Aside0.mk hH.hn
  have HGD := Aside0.mk hG
  have N_xb_mm := Aside0.mk hH.ne
  have HX : Aside0 (xb < w.heap.size) := ⟨blk_lt hH.bx⟩
  have Bxb := Aside0.mk hH.bx
  have BO := Aside0.mk hH.rO
  have Bmm := Aside0.mk hM
  have HB : Aside0 (Apart mm mm mm mm w w) := ⟨Apart.refl w⟩
  clear ih hs hH hM hG
  obtain ⟨cxb_0, cxb_1, cxb_2, cxb_3⟩ := cells4 Bxb.out; 
  go_enter Try.func81, Try.ntmps81
  cases h1 : single s
  · have h1b : (ocI (s : Int) == 1) = false := h1
    have H1 := Aside0.mk h1
    clear h1
    cases hml_ : mget L (s : Int) with
    | some c =>
      have hml := Aside0.mk hml_
      have hc := Aside0.mk (HGD.out s c hml_)
      clear hml_
      go_wp2_with (first | ((with_reducible refine gate_dst (N := 4) rfl ?_); go_must (refine box_ev (N := 4) (cs := #[.int .i64 0, .int .i64 0]) (t := 130) (h := ?_); intro r4 hgr4 w1 hbox hb; have GEr4 := ge_newx HB hgr4; have N_xb_r4 := ne_new Bxb hgr4; have N_mm_r4 := ne_new Bmm hgr4; replace HB := ap_b hb HB; replace Bxb := blk_b hb Bxb; (try clear cxb_0 cxb_1 cxb_2 cxb_3); obtain ⟨cxb_0, cxb_1, cxb_2, cxb_3⟩ := cells4 Bxb.out; replace BO := Aside0.mk (Kd.R_below (R_r BO) hb); replace Bmm := map_b hb Bmm; have Br4 := Aside0.mk hbox; clear hbox; obtain ⟨cr4_0, cr4_1⟩ := cells2 Br4.out; (try clear hb); clear hgr4)) | ((with_reducible refine gate_callee (f := 108) rfl ?_); refine goes_c (some 16) Try.func108 (oc_any (s : Int) _) (h := ?_); rintro e w2 ⟨rfl, hb⟩; refine ⟨_, rfl, ?_⟩; replace HB := ap_b hb HB; replace Bxb := blk_b hb Bxb; (try clear cxb_0 cxb_1 cxb_2 cxb_3); obtain ⟨cxb_0, cxb_1, cxb_2, cxb_3⟩ := cells4 Bxb.out; replace BO := Aside0.mk (Kd.R_below (R_r BO) hb); replace Bmm := map_b hb Bmm; replace Br4 := blk_b hb Br4; (try clear cr4_0 cr4_1); obtain ⟨cr4_0, cr4_1⟩ := cells2 Br4.out; (try clear hb); ) | ((with_reducible refine gate_dst (N := 25) rfl ?_); go_must (refine lko_event rfl (.tmp 23) (.tmp 24) rfl rfl (s : Int) rfl Bmm.out hml.out ?_)) | ((with_reducible refine gate_dst (N := 5) rfl ?_); go_must (refine box_ev (N := 5) (cs := #[.int .i64 0, .int .i64 0]) (t := 130) (h := ?_); intro b5 hgb5 w4 hbox hb; have GEb5 := ge_newx HB hgb5; have N_xb_b5 := ne_new Bxb hgb5; have N_mm_b5 := ne_new Bmm hgb5; have N_r4_b5 := ne_new Br4 hgb5; replace HB := ap_b hb HB; replace Bxb := blk_b hb Bxb; (try clear cxb_0 cxb_1 cxb_2 cxb_3); obtain ⟨cxb_0, cxb_1, cxb_2, cxb_3⟩ := cells4 Bxb.out; replace BO := Aside0.mk (Kd.R_below (R_r BO) hb); replace Bmm := map_b hb Bmm; replace Br4 := blk_b hb Br4; (try clear cr4_0 cr4_1); obtain ⟨cr4_0, cr4_1⟩ := cells2 Br4.out; have Bb5 := Aside0.mk hbox; clear hbox; obtain ⟨cb5_0, cb5_1⟩ := cells2 Bb5.out; (try clear hb); clear hgb5)) | ((with_reducible refine gate_store (t := 130) (p := 5) rfl ?_); go_must (refine row_ev b5 #[.int .i64 c.1, .int .i64 c.2] Bb5.out (h := ?_); intro w5 hbox ho_; replace HB := ap_o ho_ HB (Or.inr (Or.inr (Or.inr (Or.inr GEb5.out)))); replace Bxb := blk_o ho_ Bxb (by first | exact N_xb_b5.out | exact N_b5_xb.out.symm); (try clear cxb_0 cxb_1 cxb_2 cxb_3); obtain ⟨cxb_0, cxb_1, cxb_2, cxb_3⟩ := cells4 Bxb.out; replace BO := Aside0.mk (rowO_only (R_r BO) ho_ (Nat.le_trans HN0.out GEb5.out)); replace Bmm := map_o ho_ Bmm (by first | exact N_mm_b5.out | exact N_b5_mm.out.symm); replace Br4 := blk_o ho_ Br4 (by first | exact N_r4_b5.out | exact N_b5_r4.out.symm); (try clear cr4_0 cr4_1); obtain ⟨cr4_0, cr4_1⟩ := cells2 Br4.out; replace Bb5 := Aside0.mk hbox; clear hbox ho_; (try clear cb5_0 cb5_1); obtain ⟨cb5_0, cb5_1⟩ := cells2 Bb5.out; )) | ((with_reducible refine gate_store (t := 130) (p := 4) rfl ?_); go_must (refine row_ev r4 #[.int .i64 c.1, .int .i64 c.2] Br4.out (h := ?_); intro w6 hbox ho_; replace HB := ap_o ho_ HB (Or.inr (Or.inr (Or.inr (Or.inr GEr4.out)))); replace Bxb := blk_o ho_ Bxb (by first | exact N_xb_r4.out | exact N_r4_xb.out.symm); (try clear cxb_0 cxb_1 cxb_2 cxb_3); obtain ⟨cxb_0, cxb_1, cxb_2, cxb_3⟩ := cells4 Bxb.out; replace BO := Aside0.mk (rowO_only (R_r BO) ho_ (Nat.le_trans HN0.out GEr4.out)); replace Bmm := map_o ho_ Bmm (by first | exact N_mm_r4.out | exact N_r4_mm.out.symm); replace Bb5 := blk_o ho_ Bb5 (by first | exact N_b5_r4.out | exact N_r4_b5.out.symm); (try clear cb5_0 cb5_1); obtain ⟨cb5_0, cb5_1⟩ := cells2 Bb5.out; replace Br4 := Aside0.mk hbox; clear hbox ho_; (try clear cr4_0 cr4_1); obtain ⟨cr4_0, cr4_1⟩ := cells2 Br4.out; )))
      refine bodyPost_ret (results_c rfl _ _ r4 130 #[.int .i64 c.1, .int .i64 c.2] (0, 0) _ rfl (Br4.out) Try.underlying130 rfl (by kernel_rfl)) rfl ?_
      exact ⟨by rw [← hc.out], (ap_r HB), L, Bmm.out, HGD.out⟩
    | none =>
      have hml := Aside0.mk hml_
      clear hml_
      go_wp2_with (first | ((with_reducible refine gate_dst (N := 4) rfl ?_); go_must (refine box_ev (N := 4) (cs := #[.int .i64 0, .int .i64 0]) (t := 130) (h := ?_); intro r4 hgr4 w1 hbox hb; have GEr4 := ge_newx HB hgr4; have N_xb_r4 := ne_new Bxb hgr4; have N_mm_r4 := ne_new Bmm hgr4; replace HB := ap_b hb HB; replace Bxb := blk_b hb Bxb; (try clear cxb_0 cxb_1 cxb_2 cxb_3); obtain ⟨cxb_0, cxb_1, cxb_2, cxb_3⟩ := cells4 Bxb.out; replace BO := Aside0.mk (Kd.R_below (R_r BO) hb); replace Bmm := map_b hb Bmm; have Br4 := Aside0.mk hbox; clear hbox; obtain ⟨cr4_0, cr4_1⟩ := cells2 Br4.out; (try clear hb); clear hgr4)) | ((with_reducible refine gate_callee (f := 108) rfl ?_); refine goes_c (some 16) Try.func108 (oc_any (s : Int) _) (h := ?_); rintro e w2 ⟨rfl, hb⟩; refine ⟨_, rfl, ?_⟩; replace HB := ap_b hb HB; replace Bxb := blk_b hb Bxb; (try clear cxb_0 cxb_1 cxb_2 cxb_3); obtain ⟨cxb_0, cxb_1, cxb_2, cxb_3⟩ := cells4 Bxb.out; replace BO := Aside0.mk (Kd.R_below (R_r BO) hb); replace Bmm := map_b hb Bmm; replace Br4 := blk_b hb Br4; (try clear cr4_0 cr4_1); obtain ⟨cr4_0, cr4_1⟩ := cells2 Br4.out; (try clear hb); ) | ((with_reducible refine gate_dst (N := 25) rfl ?_); go_must (refine lko_event rfl (.tmp 23) (.tmp 24) rfl rfl (s : Int) rfl Bmm.out hml.out ?_)) | ((with_reducible refine gate_dst (N := 5) rfl ?_); go_must (refine box_ev (N := 5) (cs := #[.int .i64 0, .int .i64 0]) (t := 130) (h := ?_); intro b5 hgb5 w4 hbox hb; have GEb5 := ge_newx HB hgb5; have N_xb_b5 := ne_new Bxb hgb5; have N_mm_b5 := ne_new Bmm hgb5; have N_r4_b5 := ne_new Br4 hgb5; replace HB := ap_b hb HB; replace Bxb := blk_b hb Bxb; (try clear cxb_0 cxb_1 cxb_2 cxb_3); obtain ⟨cxb_0, cxb_1, cxb_2, cxb_3⟩ := cells4 Bxb.out; replace BO := Aside0.mk (Kd.R_below (R_r BO) hb); replace Bmm := map_b hb Bmm; replace Br4 := blk_b hb Br4; (try clear cr4_0 cr4_1); obtain ⟨cr4_0, cr4_1⟩ := cells2 Br4.out; have Bb5 := Aside0.mk hbox; clear hbox; obtain ⟨cb5_0, cb5_1⟩ := cells2 Bb5.out; (try clear hb); clear hgb5)) | ((with_reducible refine gate_store (t := 130) (p := 5) rfl ?_); go_must (refine row_ev b5 #[.int .i64 0, .int .i64 0] Bb5.out (h := ?_); intro w5 hbox ho_; replace HB := ap_o ho_ HB (Or.inr (Or.inr (Or.inr (Or.inr GEb5.out)))); replace Bxb := blk_o ho_ Bxb (by first | exact N_xb_b5.out | exact N_b5_xb.out.symm); (try clear cxb_0 cxb_1 cxb_2 cxb_3); obtain ⟨cxb_0, cxb_1, cxb_2, cxb_3⟩ := cells4 Bxb.out; replace BO := Aside0.mk (rowO_only (R_r BO) ho_ (Nat.le_trans HN0.out GEb5.out)); replace Bmm := map_o ho_ Bmm (by first | exact N_mm_b5.out | exact N_b5_mm.out.symm); replace Br4 := blk_o ho_ Br4 (by first | exact N_r4_b5.out | exact N_b5_r4.out.symm); (try clear cr4_0 cr4_1); obtain ⟨cr4_0, cr4_1⟩ := cells2 Br4.out; replace Bb5 := Aside0.mk hbox; clear hbox ho_; (try clear cb5_0 cb5_1); obtain ⟨cb5_0, cb5_1⟩ := cells2 Bb5.out; )) | ((with_reducible refine gate_dst (N := 7) rfl ?_); go_must (refine box_ev (N := 7) (cs := #[.int .i64 0, .int .i64 0]) (t := 130) (h := ?_); intro r7 hgr7 w6 hbox hb; have GEr7 := ge_newx HB hgr7; have N_xb_r7 := ne_new Bxb hgr7; have N_mm_r7 := ne_new Bmm hgr7; have N_r4_r7 := ne_new Br4 hgr7; replace HB := ap_b hb HB; replace Bxb := blk_b hb Bxb; (try clear cxb_0 cxb_1 cxb_2 cxb_3); obtain ⟨cxb_0, cxb_1, cxb_2, cxb_3⟩ := cells4 Bxb.out; replace BO := Aside0.mk (Kd.R_below (R_r BO) hb); replace Bmm := map_b hb Bmm; replace Br4 := blk_b hb Br4; (try clear cr4_0 cr4_1); obtain ⟨cr4_0, cr4_1⟩ := cells2 Br4.out; have Br7 := Aside0.mk hbox; clear hbox; obtain ⟨cr7_0, cr7_1⟩ := cells2 Br7.out; (try clear hb); clear hgr7)) | ((with_reducible refine gate_store (t := 130) (p := 7) rfl ?_); go_must (refine row_ev r7 #[.int .i64 (-1), .int .i64 (-1)] Br7.out (h := ?_); intro w7 hbox ho_; replace HB := ap_o ho_ HB (Or.inr (Or.inr (Or.inr (Or.inr GEr7.out)))); replace Bxb := blk_o ho_ Bxb (by first | exact N_xb_r7.out | exact N_r7_xb.out.symm); (try clear cxb_0 cxb_1 cxb_2 cxb_3); obtain ⟨cxb_0, cxb_1, cxb_2, cxb_3⟩ := cells4 Bxb.out; replace BO := Aside0.mk (rowO_only (R_r BO) ho_ (Nat.le_trans HN0.out GEr7.out)); replace Bmm := map_o ho_ Bmm (by first | exact N_mm_r7.out | exact N_r7_mm.out.symm); replace Br4 := blk_o ho_ Br4 (by first | exact N_r4_r7.out | exact N_r7_r4.out.symm); (try clear cr4_0 cr4_1); obtain ⟨cr4_0, cr4_1⟩ := cells2 Br4.out; replace Br7 := Aside0.mk hbox; clear hbox ho_; (try clear cr7_0 cr7_1); obtain ⟨cr7_0, cr7_1⟩ := cells2 Br7.out; )))
      (try clear Bb5); (try clear cxb_0 cxb_1 cxb_2 cxb_3); (try clear cr4_0 cr4_1); (try clear cr7_0 cr7_1); (try clear cb5_0 cb5_1)
      go_loopg [36] (T.length) (fun k v36 w' => ∃ (i : Int) (out : Int × Int) (L : List (Int × (Int × Int))), 0 ≤ i ∧ k = T.length - i.toNat ∧ i ≤ T.length ∧ v36 = .int .i64 i ∧ Aside0 (bestL (best T) s T 0 (-1, -1) = bestL (best T) s (T.drop i.toNat) i out) ∧ Aside0 (Known T L) ∧ Aside0 (Apart mm mm mm mm w w') ∧ Aside0 (w'.heap[xb]? = some (.cells #[.int .i64 n, .slice A1 TT.length c1, .slice AO T.length cO, .map (some mm)] 171 (0, 0))) ∧ Aside0 (Kd.R (Kd.int .u64) 126 w' 0 (fun k_ => k_ ≠ mm ∧ k_ < n0) (.slice AO T.length cO) (ofs T)) ∧ Aside0 (IsMap .u64 choiceV w' mm (L)) ∧ Aside0 (w'.heap[r4]? = some (.cells #[.int .i64 0, .int .i64 0] 130 (0, 0))) ∧ Aside0 (w'.heap[r7]? = some (.cells #[.int .i64 out.1, .int .i64 out.2] 130 (0, 0))))
      case atStart => exact ⟨0, (-1, -1), L, by omega, by simp, by omega, rfl, ⟨by simp⟩, HGD, ⟨(ap_r HB)⟩, ⟨Bxb.out⟩, ⟨(R_r BO)⟩, ⟨Bmm.out⟩, ⟨Br4.out⟩, ⟨Br7.out⟩⟩
      case round =>
        clear HB Bxb BO Bmm Br4 Br7
        obtain ⟨i, out, L, hi0, hn, hi, rfl, HE, HGD, HB, Bxb, BO, Bmm, Br4, Br7⟩ := hrel
        have Hn := Aside0.mk hn
        clear hn
        obtain ⟨cxb_0, cxb_1, cxb_2, cxb_3⟩ := cells4 Bxb.out; obtain ⟨cr4_0, cr4_1⟩ := cells2 Br4.out; obtain ⟨cr7_0, cr7_1⟩ := cells2 Br7.out; 
        by_cases hi' : i < T.length
        · obtain ⟨t, htd⟩ : ∃ t, t = T[i.toNat]'(by omega) := ⟨_, rfl⟩
          have HD : Aside0 (T.drop i.toNat = t :: T.drop (i + 1).toNat) := ⟨by rw [show (i + 1).toNat = i.toNat + 1 by omega, List.drop_eq_getElem_cons (by omega), htd]⟩
          have HBD := Aside0.mk (HH.out.bd t (by rw [htd]; exact List.getElem_mem _))
          have hrd : rd (ofs T) i = (t.1 : Int) := by rw [htd]; unfold rd ofs; simp [List.getD_eq_getElem?_getD, List.getElem?_eq_getElem (show i.toNat < T.length by omega)]
          have HTD := Aside0.mk htd
          clear htd
          obtain ⟨ad, had, k0⟩ := Kd.at_int (Kd.R_reads' BO.out).2.2 i hi0 (by have := (Kd.R_reads' BO.out).1; omega)
          rw [hrd] at k0
          clear hrd
          cases had
          obtain ⟨si, hsi⟩ : ∃ si, si = s &&& t.1 := ⟨_, rfl⟩
          obtain ⟨sr, hsr⟩ : ∃ sr, sr = andN s t.1 := ⟨_, rfl⟩
          have hand1 : Go.bits .and .u64 (s : Int) (t.1 : Int) = (si : Int) := by rw [hsi]; exact bits_and HS.out HBD.out.1
          have hand2 : Go.bits .andNot .u64 (s : Int) (t.1 : Int) = (sr : Int) := by rw [hsr]; exact bits_andNot HS.out HBD.out.1
          have Hsi := Aside0.mk hsi
          have Hsr := Aside0.mk hsr
          clear hsi hsr
          have htl := HH.out.tl
          cases z1 : ((si : Int) == 0)
          · have Hz1 : Aside0 (s &&& t.1 ≠ 0) := ⟨by have := Hsi.out; intro h; rw [h] at this; subst this; simp at z1⟩
            cases z2 : ((sr : Int) == 0)
            · have Hz2 : Aside0 (andN s t.1 ≠ 0) := ⟨by have := Hsr.out; intro h; rw [h] at this; subst this; simp at z2⟩
              have hlti : Aside0 (si < s) := ⟨by rw [Hsi.out]; exact and_lt Hz2.out⟩
              have hltr : Aside0 (sr < s) := ⟨by rw [Hsr.out]; exact andN_lt Hz1.out⟩
              have hb1 := (best_bound T (fun t ht => (HH.out.bd t ht).2) si).2.1
              have hb2 := (best_bound T (fun t ht => (HH.out.bd t ht).2) sr).2.1
              obtain ⟨ci, hci⟩ : ∃ c, c = best T si := ⟨_, rfl⟩
              obtain ⟨cr, hcr⟩ : ∃ c, c = best T sr := ⟨_, rfl⟩
              rw [← hci] at hb1
              rw [← hcr] at hb2
              have Hci := Aside0.mk hci
              have Hcr := Aside0.mk hcr
              have HB12 := Aside0.mk (And.intro hb1 hb2)
              clear hb1 hb2 hci hcr
              go_upto_region 13 with (first | ((with_reducible refine gate_dst (N := 55) rfl ?_); go_must (refine goesL_ (some 55) rfl rfl Try.func81 (by kernel_rfl) rfl #[.pointer (some ⟨xb, 0, none⟩), .int .u64 (si : Int)] rfl (by (try simp only [List.map_toArray, List.map_cons, List.map_nil]); first | done | rfl) ?_; refine (HI.out si hlti.out _ _ ⟨Apart.below ((ap_r HB)) HH.out.h0 HH.out.h0.size HH.out.s2 HH.out.s2 HH.out.s2 HH.out.s2, HH.out.s1, HH.out.s2, HH.out.ne, Bxb.out, (R_r BO), HH.out.r1, HH.out.k1, HH.out.co, HH.out.bd, HH.out.tl, Nat.le_trans HN0.out (show Apart mm mm mm mm w _ from (ap_r HB) : Apart mm mm mm mm w _).size⟩ (Bmm.out) HGD.out).mono ?_; rintro e w10 ⟨he_, ha_, L1, hm_, hgd_⟩; rw [← Hci.out] at he_; subst he_; refine ⟨_, rfl, ?_⟩; replace HB := Aside0.mk (Apart.trans (ap_r HB) ha_); replace Bxb := Aside0.mk (Apart.blk ha_ (Bxb.out) (by first | exact N_xb_mm.out | exact N_mm_xb.out.symm) (by first | exact N_xb_mm.out | exact N_mm_xb.out.symm) (by first | exact N_xb_mm.out | exact N_mm_xb.out.symm) (by first | exact N_xb_mm.out | exact N_mm_xb.out.symm)); (try clear cxb_0 cxb_1 cxb_2 cxb_3); obtain ⟨cxb_0, cxb_1, cxb_2, cxb_3⟩ := cells4 Bxb.out; replace BO := Aside0.mk (rowO_apart ((R_r BO)) ha_); replace Br4 := Aside0.mk (Apart.blk ha_ (Br4.out) (by first | exact N_r4_mm.out | exact N_mm_r4.out.symm) (by first | exact N_r4_mm.out | exact N_mm_r4.out.symm) (by first | exact N_r4_mm.out | exact N_mm_r4.out.symm) (by first | exact N_r4_mm.out | exact N_mm_r4.out.symm)); (try clear cr4_0 cr4_1); obtain ⟨cr4_0, cr4_1⟩ := cells2 Br4.out; replace Br7 := Aside0.mk (Apart.blk ha_ (Br7.out) (by first | exact N_r7_mm.out | exact N_mm_r7.out.symm) (by first | exact N_r7_mm.out | exact N_mm_r7.out.symm) (by first | exact N_r7_mm.out | exact N_mm_r7.out.symm) (by first | exact N_r7_mm.out | exact N_mm_r7.out.symm)); (try clear cr7_0 cr7_1); obtain ⟨cr7_0, cr7_1⟩ := cells2 Br7.out; clear Bmm HGD; have Bmm := Aside0.mk hm_; have HGD := Aside0.mk hgd_; clear hm_ hgd_ ha_; )) | ((with_reducible refine gate_dst (N := 58) rfl ?_); go_must (refine goesL_ (some 58) rfl rfl Try.func81 (by kernel_rfl) rfl #[.pointer (some ⟨xb, 0, none⟩), .int .u64 (sr : Int)] rfl (by (try simp only [List.map_toArray, List.map_cons, List.map_nil]); first | done | rfl) ?_; refine (HI.out sr hltr.out _ _ ⟨Apart.below ((ap_r HB)) HH.out.h0 HH.out.h0.size HH.out.s2 HH.out.s2 HH.out.s2 HH.out.s2, HH.out.s1, HH.out.s2, HH.out.ne, Bxb.out, (R_r BO), HH.out.r1, HH.out.k1, HH.out.co, HH.out.bd, HH.out.tl, Nat.le_trans HN0.out (show Apart mm mm mm mm w _ from (ap_r HB) : Apart mm mm mm mm w _).size⟩ (Bmm.out) HGD.out).mono ?_; rintro e w11 ⟨he_, ha_, L2, hm_, hgd_⟩; rw [← Hcr.out] at he_; subst he_; refine ⟨_, rfl, ?_⟩; replace HB := Aside0.mk (Apart.trans (ap_r HB) ha_); replace Bxb := Aside0.mk (Apart.blk ha_ (Bxb.out) (by first | exact N_xb_mm.out | exact N_mm_xb.out.symm) (by first | exact N_xb_mm.out | exact N_mm_xb.out.symm) (by first | exact N_xb_mm.out | exact N_mm_xb.out.symm) (by first | exact N_xb_mm.out | exact N_mm_xb.out.symm)); (try clear cxb_0 cxb_1 cxb_2 cxb_3); obtain ⟨cxb_0, cxb_1, cxb_2, cxb_3⟩ := cells4 Bxb.out; replace BO := Aside0.mk (rowO_apart ((R_r BO)) ha_); replace Br4 := Aside0.mk (Apart.blk ha_ (Br4.out) (by first | exact N_r4_mm.out | exact N_mm_r4.out.symm) (by first | exact N_r4_mm.out | exact N_mm_r4.out.symm) (by first | exact N_r4_mm.out | exact N_mm_r4.out.symm) (by first | exact N_r4_mm.out | exact N_mm_r4.out.symm)); (try clear cr4_0 cr4_1); obtain ⟨cr4_0, cr4_1⟩ := cells2 Br4.out; replace Br7 := Aside0.mk (Apart.blk ha_ (Br7.out) (by first | exact N_r7_mm.out | exact N_mm_r7.out.symm) (by first | exact N_r7_mm.out | exact N_mm_r7.out.symm) (by first | exact N_r7_mm.out | exact N_mm_r7.out.symm) (by first | exact N_r7_mm.out | exact N_mm_r7.out.symm)); (try clear cr7_0 cr7_1); obtain ⟨cr7_0, cr7_1⟩ := cells2 Br7.out; clear Bmm HGD; have Bmm := Aside0.mk hm_; have HGD := Aside0.mk hgd_; clear hm_ hgd_ ha_; )) | ((with_reducible refine gate_dst (N := 12) rfl ?_); go_must (refine box_ev (N := 12) (cs := #[.int .i64 0, .int .i64 0]) (t := 130) (h := ?_); intro a12 hga12 w12 hbox hb; have GEa12 := ge_newx HB hga12; have N_xb_a12 := ne_new Bxb hga12; have N_mm_a12 := ne_new Bmm hga12; have N_r4_a12 := ne_new Br4 hga12; have N_r7_a12 := ne_new Br7 hga12; replace HB := ap_b hb HB; replace Bxb := blk_b hb Bxb; (try clear cxb_0 cxb_1 cxb_2 cxb_3); obtain ⟨cxb_0, cxb_1, cxb_2, cxb_3⟩ := cells4 Bxb.out; replace BO := Aside0.mk (Kd.R_below (R_r BO) hb); replace Bmm := map_b hb Bmm; replace Br4 := blk_b hb Br4; (try clear cr4_0 cr4_1); obtain ⟨cr4_0, cr4_1⟩ := cells2 Br4.out; replace Br7 := blk_b hb Br7; (try clear cr7_0 cr7_1); obtain ⟨cr7_0, cr7_1⟩ := cells2 Br7.out; have Ba12 := Aside0.mk hbox; clear hbox; obtain ⟨ca12_0, ca12_1⟩ := cells2 Ba12.out; (try clear hb); clear hga12)) | ((with_reducible refine gate_dst (N := 13) rfl ?_); go_must (refine box_ev (N := 13) (cs := #[.int .i64 0, .int .i64 0]) (t := 130) (h := ?_); intro a13 hga13 w13 hbox hb; have GEa13 := ge_newx HB hga13; have N_xb_a13 := ne_new Bxb hga13; have N_mm_a13 := ne_new Bmm hga13; have N_r4_a13 := ne_new Br4 hga13; have N_r7_a13 := ne_new Br7 hga13; have N_a12_a13 := ne_new Ba12 hga13; replace HB := ap_b hb HB; replace Bxb := blk_b hb Bxb; (try clear cxb_0 cxb_1 cxb_2 cxb_3); obtain ⟨cxb_0, cxb_1, cxb_2, cxb_3⟩ := cells4 Bxb.out; replace BO := Aside0.mk (Kd.R_below (R_r BO) hb); replace Bmm := map_b hb Bmm; replace Br4 := blk_b hb Br4; (try clear cr4_0 cr4_1); obtain ⟨cr4_0, cr4_1⟩ := cells2 Br4.out; replace Br7 := blk_b hb Br7; (try clear cr7_0 cr7_1); obtain ⟨cr7_0, cr7_1⟩ := cells2 Br7.out; replace Ba12 := blk_b hb Ba12; (try clear ca12_0 ca12_1); obtain ⟨ca12_0, ca12_1⟩ := cells2 Ba12.out; have Ba13 := Aside0.mk hbox; clear hbox; obtain ⟨ca13_0, ca13_1⟩ := cells2 Ba13.out; (try clear hb); clear hga13)) | ((with_reducible refine gate_store (t := 130) (p := 12) rfl ?_); go_must (refine row_ev a12 #[.int .i64 ci.1, .int .i64 ci.2] Ba12.out (h := ?_); intro w14 hbox ho_; replace HB := ap_o ho_ HB (Or.inr (Or.inr (Or.inr (Or.inr GEa12.out)))); replace Bxb := blk_o ho_ Bxb (by first | exact N_xb_a12.out | exact N_a12_xb.out.symm); (try clear cxb_0 cxb_1 cxb_2 cxb_3); obtain ⟨cxb_0, cxb_1, cxb_2, cxb_3⟩ := cells4 Bxb.out; replace BO := Aside0.mk (rowO_only (R_r BO) ho_ (Nat.le_trans HN0.out GEa12.out)); replace Bmm := map_o ho_ Bmm (by first | exact N_mm_a12.out | exact N_a12_mm.out.symm); replace Br4 := blk_o ho_ Br4 (by first | exact N_r4_a12.out | exact N_a12_r4.out.symm); (try clear cr4_0 cr4_1); obtain ⟨cr4_0, cr4_1⟩ := cells2 Br4.out; replace Br7 := blk_o ho_ Br7 (by first | exact N_r7_a12.out | exact N_a12_r7.out.symm); (try clear cr7_0 cr7_1); obtain ⟨cr7_0, cr7_1⟩ := cells2 Br7.out; replace Ba13 := blk_o ho_ Ba13 (by first | exact N_a13_a12.out | exact N_a12_a13.out.symm); (try clear ca13_0 ca13_1); obtain ⟨ca13_0, ca13_1⟩ := cells2 Ba13.out; replace Ba12 := Aside0.mk hbox; clear hbox ho_; (try clear ca12_0 ca12_1); obtain ⟨ca12_0, ca12_1⟩ := cells2 Ba12.out; )) | ((with_reducible refine gate_store (t := 130) (p := 13) rfl ?_); go_must (refine row_ev a13 #[.int .i64 cr.1, .int .i64 cr.2] Ba13.out (h := ?_); intro w15 hbox ho_; replace HB := ap_o ho_ HB (Or.inr (Or.inr (Or.inr (Or.inr GEa13.out)))); replace Bxb := blk_o ho_ Bxb (by first | exact N_xb_a13.out | exact N_a13_xb.out.symm); (try clear cxb_0 cxb_1 cxb_2 cxb_3); obtain ⟨cxb_0, cxb_1, cxb_2, cxb_3⟩ := cells4 Bxb.out; replace BO := Aside0.mk (rowO_only (R_r BO) ho_ (Nat.le_trans HN0.out GEa13.out)); replace Bmm := map_o ho_ Bmm (by first | exact N_mm_a13.out | exact N_a13_mm.out.symm); replace Br4 := blk_o ho_ Br4 (by first | exact N_r4_a13.out | exact N_a13_r4.out.symm); (try clear cr4_0 cr4_1); obtain ⟨cr4_0, cr4_1⟩ := cells2 Br4.out; replace Br7 := blk_o ho_ Br7 (by first | exact N_r7_a13.out | exact N_a13_r7.out.symm); (try clear cr7_0 cr7_1); obtain ⟨cr7_0, cr7_1⟩ := cells2 Br7.out; replace Ba12 := blk_o ho_ Ba12 (by first | exact N_a12_a13.out | exact N_a13_a12.out.symm); (try clear ca12_0 ca12_1); obtain ⟨ca12_0, ca12_1⟩ := cells2 Ba12.out; replace Ba13 := Aside0.mk hbox; clear hbox ho_; (try clear ca13_0 ca13_1); obtain ⟨ca13_0, ca13_1⟩ := cells2 Ba13.out; )))
              have HST : Aside0 (bestL (best T) s T 0 (-1, -1) = if ci.1 < 0 ∨ cr.1 < 0 then bestL (best T) s (T.drop (i + 1).toNat) (i + 1) out else if out.1 < 0 ∨ t.2 + mx ci.1 cr.1 < out.1 then bestL (best T) s (T.drop (i + 1).toNat) (i + 1) (t.2 + mx ci.1 cr.1, i) else bestL (best T) s (T.drop (i + 1).toNat) (i + 1) out) := ⟨by
                rw [HE.out, HD.out, bestL, if_neg (fun h => h.elim Hz1.out Hz2.out), ← Hsi.out, ← Hsr.out, ← Hci.out, ← Hcr.out]⟩
              cases d1 : decide (ci.1 < 0)
              · cases d2 : decide (cr.1 < 0)
                · have HST2 : Aside0 (bestL (best T) s T 0 (-1, -1) = if out.1 < 0 ∨ t.2 + mx ci.1 cr.1 < out.1 then bestL (best T) s (T.drop (i + 1).toNat) (i + 1) (t.2 + mx ci.1 cr.1, i) else bestL (best T) s (T.drop (i + 1).toNat) (i + 1) out) := ⟨by
                    rw [HST.out, if_neg (by simp at d1 d2; omega)]⟩
                  go_upto_region 14 with (fail)
                  have hlen : TT.length = T.length := by have := congrArg List.length HH.out.co; simpa using this
                  obtain ⟨ad2, A0_, c0_, had2, q0, q1, q2, q3⟩ := at_T62 HH.out.r1 i hi0 (by omega)
                  have hco : (rd_T62 TT i).f1 = t.2 := by
                    have := congrArg (fun l => l[i.toNat]?) HH.out.co
                    rw [HTD.out]
                    unfold rd_T62
                    simpa [List.getD_eq_getElem?_getD, List.getElem?_eq_getElem (show i.toNat < TT.length by omega), List.getElem?_eq_getElem (show i.toNat < T.length by omega)] using this
                  rw [hco] at q1
                  have hmm := mx_cases ci.1 cr.1
                  cases had2
                  replace q1 := pw_cell_below (Apart.below (show Apart mm mm mm mm w _ from (ap_r HB)) HH.out.h0 HH.out.h0.size HH.out.s2 HH.out.s2 HH.out.s2 HH.out.s2) q1
                  have hb := HB12.out
                  have hs1 := hlti.out
                  have hs2 := hltr.out
                  have hs3 := HS.out
                  have hs4 := HBD.out.2
                  obtain ⟨mm2, hmm2⟩ : ∃ z, z = mx ci.1 cr.1 := ⟨_, rfl⟩
                  have hif : (if ci.1 < cr.1 then cr.1 else ci.1) = mm2 := by rw [hmm2]; unfold mx; (repeat' split) <;> omega
                  have hsum : IntKind.i64.wrap (t.2 + mm2) = t.2 + mm2 := IntWalk.i64_in _ (by simp at d1 d2; omega)
                  have hsum2 : wrap64 (t.2 + mm2) = t.2 + mm2 := Go.IntWalk.wrap64_in _ (by simp at d1 d2; omega)
                  rw [← hmm2] at HST2
                  clear hmm2
                  have s2' : (i < (TT.length : Int)) = True := eq_true (by omega)
                  have s3' : (0 ≤ i) = True := eq_true hi0
                  clear hb hs1 hs2 hs3 hs4 hmm hco hlen q0 q2 q3
                  go_quiet (fail)
                  clear hsum hsum2 hif s2' s3' q1
                  cases d3 : decide (out.1 < 0)
                  · cases d4 : decide (t.2 + mm2 < out.1)
                    · have HE1 : Aside0 (bestL (best T) s T 0 (-1, -1) = bestL (best T) s (T.drop (i + 1).toNat) (i + 1) out) := ⟨by rw [HST2.out, if_neg (by simp at d3 d4; omega)]⟩
                      go_wp2
                      go_roundg (T.length - (i + 1).toNat)
                      case measure => have := Hn.out; omega
                      case rel => exact ⟨i + 1, out, _, by omega, rfl, by omega, rfl, ⟨HE1.out⟩, HGD, ⟨(ap_r HB)⟩, ⟨Bxb.out⟩, ⟨(R_r BO)⟩, ⟨Bmm.out⟩, ⟨Br4.out⟩, ⟨Br7.out⟩⟩
                    · have HE1 : Aside0 (bestL (best T) s T 0 (-1, -1) = bestL (best T) s (T.drop (i + 1).toNat) (i + 1) (t.2 + mm2, i)) := ⟨by rw [HST2.out, if_pos (.inr (by simpa using d4))]⟩
                      go_wp2_with (first | ((with_reducible refine gate_store (t := 130) (p := 7) rfl ?_); go_must (refine row_ev r7 #[.int .i64 (t.2 + mm2), .int .i64 i] Br7.out (h := ?_); intro w17 hbox ho_; replace HB := ap_o ho_ HB (Or.inr (Or.inr (Or.inr (Or.inr GEr7.out)))); replace Bxb := blk_o ho_ Bxb (by first | exact N_xb_r7.out | exact N_r7_xb.out.symm); (try clear cxb_0 cxb_1 cxb_2 cxb_3); obtain ⟨cxb_0, cxb_1, cxb_2, cxb_3⟩ := cells4 Bxb.out; replace BO := Aside0.mk (rowO_only (R_r BO) ho_ (Nat.le_trans HN0.out GEr7.out)); replace Bmm := map_o ho_ Bmm (by first | exact N_mm_r7.out | exact N_r7_mm.out.symm); replace Br4 := blk_o ho_ Br4 (by first | exact N_r4_r7.out | exact N_r7_r4.out.symm); (try clear cr4_0 cr4_1); obtain ⟨cr4_0, cr4_1⟩ := cells2 Br4.out; replace Br7 := Aside0.mk hbox; clear hbox ho_; (try clear cr7_0 cr7_1); obtain ⟨cr7_0, cr7_1⟩ := cells2 Br7.out; )))
                      go_roundg (T.length - (i + 1).toNat)
                      case measure => have := Hn.out; omega
                      case rel => exact ⟨i + 1, (t.2 + mm2, i), _, by omega, rfl, by omega, rfl, ⟨HE1.out⟩, HGD, ⟨(ap_r HB)⟩, ⟨Bxb.out⟩, ⟨(R_r BO)⟩, ⟨Bmm.out⟩, ⟨Br4.out⟩, ⟨Br7.out⟩⟩
                  · have HE1 : Aside0 (bestL (best T) s T 0 (-1, -1) = bestL (best T) s (T.drop (i + 1).toNat) (i + 1) (t.2 + mm2, i)) := ⟨by rw [HST2.out, if_pos (.inl (by simpa using d3))]⟩
                    go_wp2_with (first | ((with_reducible refine gate_store (t := 130) (p := 7) rfl ?_); go_must (refine row_ev r7 #[.int .i64 (t.2 + mm2), .int .i64 i] Br7.out (h := ?_); intro w17 hbox ho_; replace HB := ap_o ho_ HB (Or.inr (Or.inr (Or.inr (Or.inr GEr7.out)))); replace Bxb := blk_o ho_ Bxb (by first | exact N_xb_r7.out | exact N_r7_xb.out.symm); (try clear cxb_0 cxb_1 cxb_2 cxb_3); obtain ⟨cxb_0, cxb_1, cxb_2, cxb_3⟩ := cells4 Bxb.out; replace BO := Aside0.mk (rowO_only (R_r BO) ho_ (Nat.le_trans HN0.out GEr7.out)); replace Bmm := map_o ho_ Bmm (by first | exact N_mm_r7.out | exact N_r7_mm.out.symm); replace Br4 := blk_o ho_ Br4 (by first | exact N_r4_r7.out | exact N_r7_r4.out.symm); (try clear cr4_0 cr4_1); obtain ⟨cr4_0, cr4_1⟩ := cells2 Br4.out; replace Br7 := Aside0.mk hbox; clear hbox ho_; (try clear cr7_0 cr7_1); obtain ⟨cr7_0, cr7_1⟩ := cells2 Br7.out; )))
                    go_roundg (T.length - (i + 1).toNat)
                    case measure => have := Hn.out; omega
                    case rel => exact ⟨i + 1, (t.2 + mm2, i), _, by omega, rfl, by omega, rfl, ⟨HE1.out⟩, HGD, ⟨(ap_r HB)⟩, ⟨Bxb.out⟩, ⟨(R_r BO)⟩, ⟨Bmm.out⟩, ⟨Br4.out⟩, ⟨Br7.out⟩⟩
                · have HE1 : Aside0 (bestL (best T) s T 0 (-1, -1) = bestL (best T) s (T.drop (i + 1).toNat) (i + 1) out) := ⟨by rw [HST.out, if_pos (.inr (by simpa using d2))]⟩
                  go_wp2
                  go_roundg (T.length - (i + 1).toNat)
                  case measure => have := Hn.out; omega
                  case rel => exact ⟨i + 1, out, _, by omega, rfl, by omega, rfl, ⟨HE1.out⟩, HGD, ⟨(ap_r HB)⟩, ⟨Bxb.out⟩, ⟨(R_r BO)⟩, ⟨Bmm.out⟩, ⟨Br4.out⟩, ⟨Br7.out⟩⟩
              · have HE1 : Aside0 (bestL (best T) s T 0 (-1, -1) = bestL (best T) s (T.drop (i + 1).toNat) (i + 1) out) := ⟨by rw [HST.out, if_pos (.inl (by simpa using d1))]⟩
                go_wp2
                go_roundg (T.length - (i + 1).toNat)
                case measure => have := Hn.out; omega
                case rel => exact ⟨i + 1, out, _, by omega, rfl, by omega, rfl, ⟨HE1.out⟩, HGD, ⟨(ap_r HB)⟩, ⟨Bxb.out⟩, ⟨(R_r BO)⟩, ⟨Bmm.out⟩, ⟨Br4.out⟩, ⟨Br7.out⟩⟩
            · have HE1 : Aside0 (bestL (best T) s T 0 (-1, -1) = bestL (best T) s (T.drop (i + 1).toNat) (i + 1) out) := ⟨by rw [HE.out, HD.out, bestL, if_pos (.inr (by have := Hsr.out; simp at z2; omega))]⟩
              go_wp2
              go_roundg (T.length - (i + 1).toNat)
              case measure => have := Hn.out; omega
              case rel => exact ⟨i + 1, out, _, by omega, rfl, by omega, rfl, ⟨HE1.out⟩, HGD, ⟨(ap_r HB)⟩, ⟨Bxb.out⟩, ⟨(R_r BO)⟩, ⟨Bmm.out⟩, ⟨Br4.out⟩, ⟨Br7.out⟩⟩
          · have HE1 : Aside0 (bestL (best T) s T 0 (-1, -1) = bestL (best T) s (T.drop (i + 1).toNat) (i + 1) out) := ⟨by rw [HE.out, HD.out, bestL, if_pos (.inl (by have := Hsi.out; simp at z1; omega))]⟩
            go_wp2
            go_roundg (T.length - (i + 1).toNat)
            case measure => have := Hn.out; omega
            case rel => exact ⟨i + 1, out, _, by omega, rfl, by omega, rfl, ⟨HE1.out⟩, HGD, ⟨(ap_r HB)⟩, ⟨Bxb.out⟩, ⟨(R_r BO)⟩, ⟨Bmm.out⟩, ⟨Br4.out⟩, ⟨Br7.out⟩⟩
        · have HE0 : Aside0 (best T s = out) := ⟨by rw [best_eq, if_neg (by rw [H1.out]; decide), HE.out, List.drop_eq_nil_of_le (by omega)]; rfl⟩
          go_upto_region 18 with (fail)
          refine region_ri (n := 7) (B := [0, 1, 3, 7, 0, 0, 63]) (fun o_ => match o_ with | 0 => some 95 | 1 => some 96 | 2 => some 97 | 3 => some 98 | 4 => some 99 | 5 => some 100 | 6 => none | _ => none) (fun o_ q_ w' => match o_ with | 0 => q_ = .pointer (some ⟨xb, 0, none⟩) | 1 => q_ = .pointer (some ⟨xb, 0, none⟩) | 2 => q_ = .pointer (some ⟨xb, 3, none⟩) | 3 => q_ = .map (some mm) | 4 => q_ = .int .u64 (s : Int) | 5 => q_ = .agg #[.int .i64 out.1, .int .i64 out.2] | _ => True) (fun b w' => if b 6 = true then (Aside0 (Apart mm mm mm mm w w') ∧ Aside0 (w'.heap[xb]? = some (.cells #[.int .i64 n, .slice A1 TT.length c1, .slice AO T.length cO, .map (some mm)] 171 (0, 0))) ∧ Aside0 (IsMap .u64 choiceV w' mm ((mput L (s : Int) out))) ∧ Aside0 (w'.heap[r4]? = some (.cells #[.int .i64 0, .int .i64 0] 130 (0, 0))) ∧ Aside0 (w'.heap[r7]? = some (.cells #[.int .i64 out.1, .int .i64 out.2] 130 (0, 0)))) else (Aside0 (Apart mm mm mm mm w w') ∧ Aside0 (w'.heap[xb]? = some (.cells #[.int .i64 n, .slice A1 TT.length c1, .slice AO T.length cO, .map (some mm)] 171 (0, 0))) ∧ Aside0 (Kd.R (Kd.int .u64) 126 w' 0 (fun k_ => k_ ≠ mm ∧ k_ < n0) (.slice AO T.length cO) (ofs T)) ∧ Aside0 (IsMap .u64 choiceV w' mm (L)) ∧ Aside0 (w'.heap[r4]? = some (.cells #[.int .i64 0, .int .i64 0] 130 (0, 0))) ∧ Aside0 (w'.heap[r7]? = some (.cells #[.int .i64 out.1, .int .i64 out.2] 130 (0, 0))))) rfl rfl (by kernel_rfl) (by kernel_rfl) (by kernel_rfl) (by show (if false = true then _ else _); rw [if_neg (by decide)]; exact ⟨ap_b (below_drew (Below.refl _ _)) HB, blk_b (below_drew (Below.refl _ _)) Bxb, Aside0.mk (Kd.R_below (R_r BO) (below_drew (Below.refl _ _))), map_b (below_drew (Below.refl _ _)) Bmm, blk_b (below_drew (Below.refl _ _)) Br4, blk_b (below_drew (Below.refl _ _)) Br7⟩) ?_ ?_
          · intro o_ hi
            match o_, hi with
            | 0, _ =>
              intro b a wq hI hbi_ hb_ hoff_
              have e0 : a.eval (.tmp 0) = .pointer (some ⟨xb, 0, none⟩) := hI.old 0 (by decide) rfl
              have s0 := sv_ e0
              have hJ := hI.j
              exact op_keep hI (i := 0) (jk_ hJ (by decide)) (hrun := gs_)
            | 1, _ =>
              intro b a wq hI hbi_ hb_ hoff_
              have e95 := hI.new 95 0 (by decide) (hb_ 0 (by decide)) rfl fun _ h => h
              have s95 := sv_ e95
              have hJ := hI.j
              exact op_keep hI (i := 1) (jk_ hJ (by decide)) (hrun := gs_)
            | 2, _ =>
              intro b a wq hI hbi_ hb_ hoff_
              have e96 := hI.new 96 1 (by decide) (hb_ 1 (by decide)) rfl fun _ h => h
              have s96 := sv_ e96
              have hJ := hI.j
              exact op_keep hI (i := 2) (jk_ hJ (by decide)) (hrun := gs_)
            | 3, _ =>
              intro b a wq hI hbi_ hb_ hoff_
              have e97 := hI.new 97 2 (by decide) (hb_ 2 (by decide)) rfl fun _ h => h
              have s97 := sv_ e97
              have hJ := hI.j
              obtain ⟨HBq, qxb, qO, qmm, qr4, qr7⟩ := j0_ hJ (hoff_ 6 (by decide))
              obtain ⟨cxb_0, cxb_1, cxb_2, cxb_3⟩ := cells4 qxb.out; 
              exact op_keep hI (i := 3) (jk_ hJ (by decide)) (hrun := gs_)
            | 4, _ =>
              intro b a wq hI hbi_ hb_ hoff_
              have e1 : a.eval (.tmp 1) = .int .u64 (s : Int) := hI.old 1 (by decide) rfl
              have s1 := sv_ e1
              have hJ := hI.j
              exact op_keep hI (i := 4) (jk_ hJ (by decide)) (hrun := gs_)
            | 5, _ =>
              intro b a wq hI hbi_ hb_ hoff_
              have e7 : a.eval (.tmp 7) = .pointer (some ⟨r7, 0, none⟩) := hI.old 7 (by decide) rfl
              have s7 := sv_ e7
              have hJ := hI.j
              obtain ⟨HBq, qxb, qO, qmm, qr4, qr7⟩ := j0_ hJ (hoff_ 6 (by decide))
              obtain ⟨cr7_0, cr7_1⟩ := cells2 qr7.out; 
              exact op_keep hI (i := 5) (jk_ hJ (by decide)) (hrun := gs_)
            | 6, _ =>
              intro b a wq hI hbi_ hb_ hoff_
              have e98 := hI.new 98 3 (by decide) (hb_ 3 (by decide)) rfl fun _ h => h
              have s98 := sv_ e98
              have e99 := hI.new 99 4 (by decide) (hb_ 4 (by decide)) rfl fun _ h => h
              have s99 := sv_ e99
              have e100 := hI.new 100 5 (by decide) (hb_ 5 (by decide)) rfl fun _ h => h
              have s100 := sv_ e100
              have hJ := hI.j
              obtain ⟨HBq, qxb, qO, qmm, qr4, qr7⟩ := j0_ hJ hbi_
              obtain ⟨cxb_0, cxb_1, cxb_2, cxb_3⟩ := cells4 qxb.out; 
              obtain ⟨cr4_0, cr4_1⟩ := cells2 qr4.out; 
              obtain ⟨cr7_0, cr7_1⟩ := cells2 qr7.out; 
              refine ⟨_, rfl, rfl, fun K hK => ?_⟩
              obtain ⟨w2, hrun2, hm2, ho2⟩ := run_mapUpdate (P := Try.prog) (T := 169) (K := 126) (E := 130) qmm.out Try.underlying169 Try.underlying126 (s : Int) (out : Int × Int)
              change (Instr.mapUpdate 169 (.map (some mm)) (.int .u64 (s : Int)) (.agg #[.int .i64 out.1, .int .i64 out.2])).run Try.prog wq = _ at hrun2
              refine skip_ rfl rfl (w1 := w2) (by unfold execOp; simp [e98, e99, e100, hrun2]) (hK undef _ (by show (if up b 6 6 = true then _ else _); rw [up_self, if_pos rfl]; exact ⟨⟨Apart.only HBq.out ho2 (Or.inl rfl)⟩, ⟨Only.blk ho2 qxb.out (by first | exact N_xb_mm.out | exact N_mm_xb.out.symm)⟩, ⟨hm2⟩, ⟨Only.blk ho2 qr4.out (by first | exact N_r4_mm.out | exact N_mm_r4.out.symm)⟩, ⟨Only.blk ho2 qr7.out (by first | exact N_r7_mm.out | exact N_mm_r7.out.symm)⟩⟩) (fun _ _ h => h) trivial)
            | o_ + 7, hi => exact absurd hi (by omega)
          intro vs wn b_ hall hJ hT
          replace hJ := j1_ hJ (hall 6 (by decide))
          obtain ⟨HJ0, HT0⟩ : Aside0 _ ∧ Aside0 _ := ⟨⟨hJ⟩, ⟨hT⟩⟩
          clear hall hJ hT
          simp only [fillAll, show List.range 7 = [0, 1, 2, 3, 4, 5, 6] from rfl]
          rw [show vs 0 = _ from HT0.out 0 (by decide) (by decide), show vs 1 = _ from HT0.out 1 (by decide) (by decide), show vs 2 = _ from HT0.out 2 (by decide) (by decide), show vs 3 = _ from HT0.out 3 (by decide) (by decide), show vs 4 = _ from HT0.out 4 (by decide) (by decide), show vs 5 = _ from HT0.out 5 (by decide) (by decide)]
          simp only [Act.put, List.setIfInBounds_toArray, List.set_cons_zero, List.set_cons_succ]
          clear HB Bxb BO Bmm Br4 Br7
          obtain ⟨HB, Bxb, Bmm, Br4, Br7⟩ := HJ0.out
          clear HJ0 HT0
          (try clear cxb_0 cxb_1 cxb_2 cxb_3); (try clear cr4_0 cr4_1); (try clear cr7_0 cr7_1)
          obtain ⟨cxb_0, cxb_1, cxb_2, cxb_3⟩ := cells4 Bxb.out; obtain ⟨cr4_0, cr4_1⟩ := cells2 Br4.out; obtain ⟨cr7_0, cr7_1⟩ := cells2 Br7.out; 
          go_wp2_with (first | ((with_reducible refine gate_store (t := 130) (p := 4) rfl ?_); go_must (refine row_ev r4 #[.int .i64 out.1, .int .i64 out.2] Br4.out (h := ?_); intro w18 hbox ho_; replace HB := ap_o ho_ HB (Or.inr (Or.inr (Or.inr (Or.inr GEr4.out)))); replace Bxb := blk_o ho_ Bxb (by first | exact N_xb_r4.out | exact N_r4_xb.out.symm); (try clear cxb_0 cxb_1 cxb_2 cxb_3); obtain ⟨cxb_0, cxb_1, cxb_2, cxb_3⟩ := cells4 Bxb.out; replace Bmm := map_o ho_ Bmm (by first | exact N_mm_r4.out | exact N_r4_mm.out.symm); replace Br7 := blk_o ho_ Br7 (by first | exact N_r7_r4.out | exact N_r4_r7.out.symm); (try clear cr7_0 cr7_1); obtain ⟨cr7_0, cr7_1⟩ := cells2 Br7.out; replace Br4 := Aside0.mk hbox; clear hbox ho_; (try clear cr4_0 cr4_1); obtain ⟨cr4_0, cr4_1⟩ := cells2 Br4.out; )))
          refine bodyPost_ret (results_c rfl _ _ r4 130 #[.int .i64 out.1, .int .i64 out.2] (0, 0) _ rfl (Br4.out) Try.underlying130 rfl (by kernel_rfl)) rfl ?_
          exact ⟨by rw [HE0.out], (ap_r HB), _, Bmm.out, fun x c hx => by
            rw [mfind_put] at hx
            by_cases hxs : (x : Int) = s
            · rw [if_pos hxs] at hx
              obtain rfl : x = s := by omega
              rw [HE0.out]; exact (Option.some.inj hx).symm
            · rw [if_neg hxs] at hx; exact HGD.out x c hx⟩
  · have h1b : (ocI (s : Int) == 1) = true := h1
    have H1 := Aside0.mk h1
    clear h1
    go_wp2_with (first | ((with_reducible refine gate_dst (N := 4) rfl ?_); go_must (refine box_ev (N := 4) (cs := #[.int .i64 0, .int .i64 0]) (t := 130) (h := ?_); intro r4 hgr4 w1 hbox hb; have GEr4 := ge_newx HB hgr4; have N_xb_r4 := ne_new Bxb hgr4; have N_mm_r4 := ne_new Bmm hgr4; replace HB := ap_b hb HB; replace Bxb := blk_b hb Bxb; (try clear cxb_0 cxb_1 cxb_2 cxb_3); obtain ⟨cxb_0, cxb_1, cxb_2, cxb_3⟩ := cells4 Bxb.out; replace BO := Aside0.mk (Kd.R_below (R_r BO) hb); replace Bmm := map_b hb Bmm; have Br4 := Aside0.mk hbox; clear hbox; obtain ⟨cr4_0, cr4_1⟩ := cells2 Br4.out; (try clear hb); clear hgr4)) | ((with_reducible refine gate_callee (f := 108) rfl ?_); refine goes_c (some 16) Try.func108 (oc_any (s : Int) _) (h := ?_); rintro e w2 ⟨rfl, hb⟩; refine ⟨_, rfl, ?_⟩; replace HB := ap_b hb HB; replace Bxb := blk_b hb Bxb; (try clear cxb_0 cxb_1 cxb_2 cxb_3); obtain ⟨cxb_0, cxb_1, cxb_2, cxb_3⟩ := cells4 Bxb.out; replace BO := Aside0.mk (Kd.R_below (R_r BO) hb); replace Bmm := map_b hb Bmm; replace Br4 := blk_b hb Br4; (try clear cr4_0 cr4_1); obtain ⟨cr4_0, cr4_1⟩ := cells2 Br4.out; (try clear hb); ) | ((with_reducible refine gate_store (t := 130) (p := 4) rfl ?_); go_must (refine row_ev r4 #[.int .i64 0, .int .i64 (-1)] Br4.out (h := ?_); intro w3 hbox ho_; replace HB := ap_o ho_ HB (Or.inr (Or.inr (Or.inr (Or.inr GEr4.out)))); replace Bxb := blk_o ho_ Bxb (by first | exact N_xb_r4.out | exact N_r4_xb.out.symm); (try clear cxb_0 cxb_1 cxb_2 cxb_3); obtain ⟨cxb_0, cxb_1, cxb_2, cxb_3⟩ := cells4 Bxb.out; replace BO := Aside0.mk (rowO_only (R_r BO) ho_ (Nat.le_trans HN0.out GEr4.out)); replace Bmm := map_o ho_ Bmm (by first | exact N_mm_r4.out | exact N_r4_mm.out.symm); replace Br4 := Aside0.mk hbox; clear hbox ho_; (try clear cr4_0 cr4_1); obtain ⟨cr4_0, cr4_1⟩ := cells2 Br4.out; )))
    refine bodyPost_ret (results_c rfl _ _ r4 130 #[.int .i64 0, .int .i64 (-1)] (0, 0) _ rfl (Br4.out) Try.underlying130 rfl (by kernel_rfl)) rfl ?_
    exact ⟨by rw [best_eq, if_pos H1.out], (ap_r HB), L, Bmm.out, HGD.out⟩
end Go.Proofs.Ytkhnhkjihhhbbaa.P

namespace Go.Proofs.Ytkhnhkjihhhbbaa.P
open Go.RowKit Go.Proofs.YtkhnhkjihhhbbaaW.PrintWords Go.Proofs.YtkhnhkjihhhbbaaW.PrintLast Go.Proofs.YtkhnhkjihhhbbaaW.PrintMore
set_option linter.unusedVariables false
set_option linter.unusedSimpArgs false
def shutE (np : Nat) : List Int → Int → Int
  | [], _ => 0
  | p :: l, last => if fromB p 0 (wrap64 ((np : Int) - 1)) = true then (if p ≤ last then 11 else shutE np l p) else 7
def stageV (np : Nat) (s : S45) : Int := if fromB s.f0 0 2000 = true then (if fromB s.f1 0 2000 = true then shutE np s.f2 (-1) else 2) else 2
def stagesE (np : Nat) : List S45 → Int → Int
  | [], t => if t > 2000 then 14 else 0
  | s :: l, t => if stageV np s = 0 then stagesE np l (wrap64 (t + s.f0)) else stageV np s
def runsV (l0 : List S36) (l1 : List S138) (l2 : List S112) (l3 : List S140) (l4 : List S142) (l5 : List S45) : Int :=
  if checkV l0 l1 l2 l3 l4 = 0 then (if (l5.length : Int) > 20 then 8 else stagesE l1.length l5 0) else checkV l0 l1 l2 l3 l4
theorem from_f (n lo hi : Int) : pump_from.f n lo hi = some (fromB n lo hi) := by unfold pump_from.f fromB; split <;> simp [*]
section
variable {l0 : List S36} {l1 : List S138} {l2 : List S112} {l3 : List S140} {l4 : List S142}
theorem stage_l0 (l : List Int) (hl : l.length ≤ 9223372036854775807) : ∀ (n : Nat) (i last : Int) (k : Nat), 0 ≤ i → i ≤ l.length → l.length - i.toNat = n → n < k → pump_stage.l0 k last l (l.length : Int) i l0 l1 l2 l3 l4 = some (shutE l1.length (l.drop i.toNat) last) := by
  intro n
  induction n with
  | zero =>
    intro i last k h0 h1 h2 hk
    obtain ⟨k, rfl⟩ : ∃ j, k = j + 1 := ⟨k - 1, by omega⟩
    rw [pump_stage.l0, if_neg (by omega), List.drop_eq_nil_of_le (by omega), shutE]
  | succ n ih =>
    intro i last k h0 h1 h2 hk
    obtain ⟨k, rfl⟩ : ∃ j, k = j + 1 := ⟨k - 1, by omega⟩
    have hlt : i.toNat < l.length := by omega
    have hd : l.drop i.toNat = rd l i :: l.drop (i + 1).toNat := by
      rw [show (i + 1).toNat = i.toNat + 1 by omega, List.drop_eq_getElem_cons hlt]; unfold rd; simp [List.getD_eq_getElem?_getD, List.getElem?_eq_getElem hlt]
    rw [pump_stage.l0, if_pos (by omega), if_pos h0, if_pos (by omega), from_f, Option.bind_some, hd, shutE]
    by_cases hf : fromB (rd l i) 0 (wrap64 ((l1.length : Int) - 1)) = true
    · rw [if_pos hf, if_pos hf]
      by_cases hx : rd l i ≤ last
      · rw [if_pos hx, if_pos hx]
      · rw [if_neg hx, if_neg hx, Go.IntWalk.wrap64_in (i + 1) (by omega)]
        exact ih (i + 1) (rd l i) k (by omega) (by omega) (by omega) (by omega)
    · rw [if_neg hf, if_neg hf]
theorem stage_f (s : S45) (hl : s.f2.length ≤ 9223372036854775807) (k : Nat) (hk : s.f2.length + 1 < k) : pump_stage.f k l0 l1 l2 l3 l4 s.f0 s.f1 s.f2 s.f3 = some (stageV l1.length s) := by
  obtain ⟨k, rfl⟩ : ∃ j, k = j + 1 := ⟨k - 1, by omega⟩
  unfold pump_stage.f stageV
  rw [from_f, from_f, Option.bind_some, Option.bind_some]
  by_cases h1 : fromB s.f0 0 2000 = true
  · rw [if_pos h1, if_pos h1]
    by_cases h2 : fromB s.f1 0 2000 = true
    · rw [if_pos h2, pump_stage.j0, if_neg (by rw [h2]; decide)]
      exact stage_l0 s.f2 hl _ 0 (-1) k (by omega) (by omega) rfl (by simp; omega)
    · rw [if_neg h2, pump_stage.j0, if_pos (by cases hb : fromB s.f1 0 2000 <;> simp_all)]
  · rw [if_neg h1, if_neg h1, pump_stage.j0, if_pos rfl]
theorem runs_l0 (L : Nat) (l : List S45) (hl : l.length ≤ 9223372036854775807) (hs : ∀ s ∈ l, s.f2.length ≤ L) (hL : L ≤ 9223372036854775807) : ∀ (n : Nat) (i t : Int) (k : Nat), 0 ≤ i → i ≤ l.length → l.length - i.toNat = n → n + L + 2 < k → pump_runs.l0 k t l (l.length : Int) i l0 l1 l2 l3 l4 = some (stagesE l1.length (l.drop i.toNat) t) := by
  intro n
  induction n with
  | zero =>
    intro i t k h0 h1 h2 hk
    obtain ⟨k, rfl⟩ : ∃ j, k = j + 1 := ⟨k - 1, by omega⟩
    rw [pump_runs.l0, if_neg (by omega), List.drop_eq_nil_of_le (by omega), stagesE]
    split <;> rfl
  | succ n ih =>
    intro i t k h0 h1 h2 hk
    obtain ⟨k, rfl⟩ : ∃ j, k = j + 1 := ⟨k - 1, by omega⟩
    have hlt : i.toNat < l.length := by omega
    have hd : l.drop i.toNat = rd_T45 l i :: l.drop (i + 1).toNat := by
      rw [show (i + 1).toNat = i.toNat + 1 by omega, List.drop_eq_getElem_cons hlt]; unfold rd_T45; simp [List.getD_eq_getElem?_getD, List.getElem?_eq_getElem hlt]
    have hm : rd_T45 l i ∈ l := List.mem_of_mem_drop (hd ▸ List.mem_cons_self)
    have hsl := hs _ hm
    rw [pump_runs.l0, if_pos (by omega), if_pos h0, if_pos (by omega), stage_f _ (by omega) k (by omega), Option.bind_some, hd, stagesE]
    by_cases hx : stageV l1.length (rd_T45 l i) = 0
    · rw [if_pos hx, if_pos hx, Go.IntWalk.wrap64_in (i + 1) (by omega)]
      exact ih (i + 1) _ k (by omega) (by omega) (by omega) (by omega)
    · rw [if_neg hx, if_neg hx]
theorem runs_f (L : Nat) (l : List S45) (hl : l.length ≤ 9223372036854775807) (hs : ∀ s ∈ l, s.f2.length ≤ L) (hL : L ≤ 9223372036854775807) : pump_runs.f (l.length + L + 3) l0 l1 l2 l3 l4 l = some (runsV l0 l1 l2 l3 l4 l) := by
  unfold pump_runs.f runsV pump_Check.f
  rw [Option.bind_some]
  by_cases h : checkV l0 l1 l2 l3 l4 = 0
  · rw [if_pos h, if_pos h]
    by_cases h2 : (l.length : Int) > 20
    · rw [if_pos h2, if_pos h2]
    · rw [if_neg h2, if_neg h2]
      exact runs_l0 L l hl hs hL _ 0 0 _ (by omega) (by omega) rfl (by simp)
  · rw [if_neg h, if_neg h]
end
/-- pump.runs, as a contract. -/
theorem runs_any (l0 : List S36) (l1 : List S138) (l2 : List S112) (l3 : List S140) (l4 : List S142) (l5 : List S45) (A0 A1 A2 A3 A4 A5 : Option Addr) (c0 c1 c2 c3 c4 c5 : Nat) (w : World)
    (hr0 : Kd.C k36 w A0 l0.length l0) (hr1 : Kd.C k138 w A1 l1.length l1) (hr2 : Kd.C k112 w A2 l2.length l2) (hr3 : Kd.C k140 w A3 l3.length l3) (hr4 : Kd.C k142 w A4 l4.length l4) (hr5 : Kd.C k45 w A5 l5.length l5)
    (hc0 : l0.length ≤ c0) (hc1 : l1.length ≤ c1) (hc2 : l2.length ≤ c2) (hc3 : l3.length ≤ c3) (hc4 : l4.length ≤ c4) (hc5 : l5.length ≤ c5) :
    Calls Try.prog 73 #[.agg #[.slice A0 l0.length c0, .slice A1 l1.length c1, .slice A2 l2.length c2, .slice A3 l3.length c3, .slice A4 l4.length c4], .slice A5 l5.length c5] w fun e w' => e = .returned (.int .i64 (runsV l0 l1 l2 l3 l4 l5)) ∧ Below w.heap.size w w' := by
  refine pump_runs.calls _ A0 c0 l0 A1 c1 l1 A2 c2 l2 A3 c3 l3 A4 c4 l4 A5 c5 l5 _ w hr0 hc0 hr1 hc1 hr2 hc2 hr3 hc3 hr4 hc4 hr5 hc5 (runs_f 9223372036854775807 l5 (Kd.C_max hr5) (fun s hs => ?_) (Nat.le_refl _))
  obtain ⟨i, hi, rfl⟩ := List.mem_iff_getElem.1 hs
  obtain ⟨ad, A2', c2', _, _, _, _, _, _, hC⟩ := at_T45 hr5 (i : Int) (by omega) (by omega)
  have h2 := Kd.C_max hC
  have : rd_T45 l5 (i : Int) = l5[i] := by unfold rd_T45; simp [List.getD_eq_getElem?_getD, List.getElem?_eq_getElem hi]
  rwa [this] at h2
end Go.Proofs.Ytkhnhkjihhhbbaa.P

namespace Go.Proofs.Ytkhnhkjihhhbbaa.P
open Go.RowKit Go.Proofs.YtkhnhkjihhhbbaaW.PrintWords Go.Proofs.YtkhnhkjihhhbbaaW.PrintLast Go.Proofs.YtkhnhkjihhhbbaaW.PrintMore
set_option linter.unusedVariables false
set_option linter.unusedSimpArgs false
def suspL (n : Int) : List Int → Int → Int → Int × Int
  | [], set, _ => (set, 0)
  | p :: l, set, last => if fromB p 0 (wrap64 (n - 1)) = true then (if p ≤ last then (0, 11) else suspL n l (Go.bits .or .u64 set (shl .u64 1 p)) p) else (0, 7)
def suspV (n : Int) (l : List Int) : Int × Int := suspL n l 0 (-1)
def huntE (n : Int) : List S62 → Int
  | [] => 0
  | t :: l => if (suspV n t.f0).2 = 0 then (if fromB t.f1 0 1000 = true then huntE n l else 2) else (suspV n t.f0).2
def huntV (n : Int) (T : List S62) : Int := if fromB n 1 12 = true then (if (T.length : Int) > 12 then 8 else huntE n T) else 2
theorem susp_l0 (n : Int) (l : List Int) (hl : l.length ≤ 9223372036854775807) : ∀ (m : Nat) (i set last : Int) (k : Nat), 0 ≤ i → i ≤ l.length → l.length - i.toNat = m → m < k → pump_suspects.l0 k n set last l (l.length : Int) i = some (suspL n (l.drop i.toNat) set last) := by
  intro m
  induction m with
  | zero =>
    intro i set last k h0 h1 h2 hk
    obtain ⟨k, rfl⟩ : ∃ j, k = j + 1 := ⟨k - 1, by omega⟩
    rw [pump_suspects.l0, if_neg (by omega), List.drop_eq_nil_of_le (by omega), suspL]
  | succ m ih =>
    intro i set last k h0 h1 h2 hk
    obtain ⟨k, rfl⟩ : ∃ j, k = j + 1 := ⟨k - 1, by omega⟩
    have hlt : i.toNat < l.length := by omega
    have hd : l.drop i.toNat = rd l i :: l.drop (i + 1).toNat := by
      rw [show (i + 1).toNat = i.toNat + 1 by omega, List.drop_eq_getElem_cons hlt]; unfold rd; simp [List.getD_eq_getElem?_getD, List.getElem?_eq_getElem hlt]
    rw [pump_suspects.l0, if_pos (by omega), if_pos h0, if_pos (by omega), from_f, Option.bind_some, hd, suspL]
    by_cases hf : fromB (rd l i) 0 (wrap64 (n - 1)) = true
    · rw [if_pos hf, if_pos hf]
      by_cases hx : rd l i ≤ last
      · rw [if_pos hx, if_pos hx]
      · rw [if_neg hx, if_neg hx, if_pos (by unfold fromB at hf; simp at hf; omega), Go.IntWalk.wrap64_in (i + 1) (by omega)]
        exact ih (i + 1) _ (rd l i) k (by omega) (by omega) (by omega) (by omega)
    · rw [if_neg hf, if_neg hf]
theorem susp_f (n : Int) (l : List Int) (hl : l.length ≤ 9223372036854775807) (k : Nat) (hk : l.length < k) : pump_suspects.f k n l = some (suspV n l) := by
  unfold pump_suspects.f suspV
  exact susp_l0 n l hl _ 0 0 (-1) k (by omega) (by omega) rfl (by simp; omega)
theorem susp_any (n : Int) (A : Option Addr) (c : Nat) (l : List Int) (w : World) (hr : Kd.C (Kd.int .i64) w A l.length l) (hc : l.length ≤ c) :
    Calls Try.prog 79 #[.int .i64 n, .slice A l.length c] w fun e w' => e = .returned (.tuple #[.int .u64 (suspV n l).1, .int .i64 (suspV n l).2]) ∧ Below w.heap.size w w' :=
  (pump_suspects.calls (l.length + 1) n A c l (suspV n l).1 (suspV n l).2 w hr hc (susp_f n l (Kd.C_max hr) _ (by omega))).mono fun e w' h => ⟨h.1, h.2.below⟩
theorem hunt_l0 (L : Nat) (n : Int) (T : List S62) (hl : T.length ≤ 9223372036854775807) (hs : ∀ t ∈ T, t.f0.length ≤ L) (hL : L ≤ 9223372036854775807) : ∀ (m : Nat) (i : Int) (k : Nat), 0 ≤ i → i ≤ T.length → T.length - i.toNat = m → m + L + 1 < k → pump_CheckHunt.l0 k T (T.length : Int) i n T = some (huntE n (T.drop i.toNat)) := by
  intro m
  induction m with
  | zero =>
    intro i k h0 h1 h2 hk
    obtain ⟨k, rfl⟩ : ∃ j, k = j + 1 := ⟨k - 1, by omega⟩
    rw [pump_CheckHunt.l0, if_neg (by omega), List.drop_eq_nil_of_le (by omega), huntE]
  | succ m ih =>
    intro i k h0 h1 h2 hk
    obtain ⟨k, rfl⟩ : ∃ j, k = j + 1 := ⟨k - 1, by omega⟩
    have hlt : i.toNat < T.length := by omega
    have hd : T.drop i.toNat = rd_T62 T i :: T.drop (i + 1).toNat := by
      rw [show (i + 1).toNat = i.toNat + 1 by omega, List.drop_eq_getElem_cons hlt]; unfold rd_T62; simp [List.getD_eq_getElem?_getD, List.getElem?_eq_getElem hlt]
    have hm : rd_T62 T i ∈ T := List.mem_of_mem_drop (hd ▸ List.mem_cons_self)
    have hsl := hs _ hm
    rw [pump_CheckHunt.l0, if_pos (by omega), if_pos h0, if_pos (by omega), susp_f _ _ (by omega) k (by omega), Option.bind_some, hd, huntE]
    by_cases hx : (suspV n (rd_T62 T i).f0).2 = 0
    · rw [if_pos hx, if_pos hx, from_f, Option.bind_some]
      by_cases hf : fromB (rd_T62 T i).f1 0 1000 = true
      · rw [if_pos hf, if_pos hf, Go.IntWalk.wrap64_in (i + 1) (by omega)]
        exact ih (i + 1) k (by omega) (by omega) (by omega) (by omega)
      · rw [if_neg hf, if_neg hf]
    · rw [if_neg hx, if_neg hx]
theorem hunt_f (L : Nat) (n : Int) (T : List S62) (hl : T.length ≤ 9223372036854775807) (hs : ∀ t ∈ T, t.f0.length ≤ L) (hL : L ≤ 9223372036854775807) : pump_CheckHunt.f (T.length + L + 2) n T = some (huntV n T) := by
  unfold pump_CheckHunt.f huntV
  rw [from_f, Option.bind_some]
  by_cases h : fromB n 1 12 = true
  · rw [if_pos h, if_pos h]
    by_cases h2 : (T.length : Int) > 12
    · rw [if_pos h2, if_pos h2]
    · rw [if_neg h2, if_neg h2]
      exact hunt_l0 L n T hl hs hL _ 0 _ (by omega) (by omega) rfl (by simp)
  · rw [if_neg h, if_neg h]
theorem hunt_any (n : Int) (A : Option Addr) (c : Nat) (T : List S62) (w : World) (hr : Kd.C k62 w A T.length T) (hc : T.length ≤ c) :
    Calls Try.prog 46 #[.agg #[.int .i64 n, .slice A T.length c]] w fun e w' => e = .returned (.int .i64 (huntV n T)) ∧ Below w.heap.size w w' := by
  refine pump_CheckHunt.calls _ n A c T _ w hr hc (hunt_f 9223372036854775807 n T (Kd.C_max hr) (fun t ht => ?_) (Nat.le_refl _))
  obtain ⟨i, hi, rfl⟩ := List.mem_iff_getElem.1 ht
  obtain ⟨ad, A0, c0, _, _, _, _, hC⟩ := at_T62 hr (i : Int) (by omega) (by omega)
  have h2 := Kd.C_max hC
  have : rd_T62 T (i : Int) = T[i] := by unfold rd_T62; simp [List.getD_eq_getElem?_getD, List.getElem?_eq_getElem hi]
  rwa [this] at h2
/-- The set of a list of suspects. -/
def setN (l : List Int) : Nat := l.foldl (fun s p => s ||| 2 ^ p.toNat) 0
theorem susp_ok {n : Int} (h1 : 1 ≤ n) (h2 : n ≤ 12) : ∀ (l : List Int) (s : Nat) (last : Int), s < 2 ^ n.toNat → (suspL n l (s : Int) last).2 = 0 → (suspL n l (s : Int) last).1 = ((l.foldl (fun s p => s ||| 2 ^ p.toNat) s : Nat) : Int) ∧ l.foldl (fun s p => s ||| 2 ^ p.toNat) s < 2 ^ n.toNat ∧ ∀ p ∈ l, 0 ≤ p ∧ p < n
  | [], s, _, hs, _ => ⟨rfl, hs, fun p hp => by cases hp⟩
  | p :: l, s, last, hs, h => by
    have h12 : (2 : Nat) ^ n.toNat ≤ 4096 := by
      have := Nat.pow_le_pow_right (by decide : 1 ≤ 2) (show n.toNat ≤ 12 by omega)
      simpa using this
    rw [suspL] at h ⊢
    by_cases hf : fromB p 0 (wrap64 (n - 1)) = true
    · rw [if_pos hf] at h ⊢
      by_cases hx : p ≤ last
      · rw [if_pos hx] at h; simp at h
      · rw [if_neg hx] at h ⊢
        have hp : 0 ≤ p ∧ p < n := by
          unfold fromB at hf
          rw [Go.IntWalk.wrap64_in _ (by omega)] at hf
          simp at hf; omega
        have hpp : (2 : Nat) ^ p.toNat < 2 ^ n.toNat := Nat.pow_lt_pow_right (by decide) (by omega)
        have hsh : shl .u64 1 p = ((2 ^ p.toNat : Nat) : Int) := by
          have hb : IntKind.u64.bits = 64 := rfl
          unfold shl
          rw [Nat.min_eq_left (by rw [hb]; omega), Int.one_mul]
          have e : ((2 ^ p.toNat : Nat) : Int) = 2 ^ p.toNat := by simp
          rw [← e]
          obtain ⟨z, hz⟩ : ∃ z : Nat, z = 2 ^ p.toNat := ⟨_, rfl⟩
          rw [← hz] at hpp ⊢
          exact wraps_u64 _ (by omega) (by have : (2 : Int) ^ 12 = 4096 := rfl; omega)
        rw [hsh, bits_or (by omega) (by omega)] at h ⊢
        obtain ⟨e1, e2, e3⟩ := susp_ok h1 h2 l (s ||| 2 ^ p.toNat) p (Nat.or_lt_two_pow hs hpp) h
        refine ⟨e1, e2, fun q hq => ?_⟩
        rcases List.mem_cons.1 hq with rfl | hq
        · exact hp
        · exact e3 q hq
    · rw [if_neg hf] at h; simp at h
theorem susp_set {n : Int} (h1 : 1 ≤ n) (h2 : n ≤ 12) {l : List Int} (h : (suspV n l).2 = 0) : (suspV n l).1 = (setN l : Int) ∧ setN l < 2 ^ n.toNat ∧ ∀ p ∈ l, 0 ≤ p ∧ p < n :=
  susp_ok h1 h2 l 0 (-1) (Nat.pow_pos (by decide)) h
/-- The sets and the costs of a hunt's tests. -/
def testsOf (T : List S62) : List (Nat × Int) := T.map fun t => (setN t.f0, t.f1)
theorem huntE_ok {n : Int} : ∀ {T : List S62}, huntE n T = 0 → ∀ t ∈ T, (suspV n t.f0).2 = 0 ∧ 0 ≤ t.f1 ∧ t.f1 ≤ 1000
  | [], _, t, ht => by cases ht
  | x :: T, h, t, ht => by
    rw [huntE] at h
    by_cases h1 : (suspV n x.f0).2 = 0
    · rw [if_pos h1] at h
      by_cases h2 : fromB x.f1 0 1000 = true
      · rw [if_pos h2] at h
        rcases List.mem_cons.1 ht with rfl | ht
        · unfold fromB at h2; simp at h2; exact ⟨h1, by omega, by omega⟩
        · exact huntE_ok h t ht
      · rw [if_neg h2] at h; omega
    · rw [if_neg h1] at h; exact absurd h h1
theorem hunt_ok {n : Int} {T : List S62} (h : huntV n T = 0) : 1 ≤ n ∧ n ≤ 12 ∧ T.length ≤ 12 ∧ ∀ t ∈ T, (suspV n t.f0).2 = 0 ∧ 0 ≤ t.f1 ∧ t.f1 ≤ 1000 := by
  unfold huntV at h
  by_cases h1 : fromB n 1 12 = true
  · rw [if_pos h1] at h
    by_cases h2 : (T.length : Int) > 12
    · rw [if_pos h2] at h; omega
    · rw [if_neg h2] at h
      unfold fromB at h1; simp at h1
      exact ⟨by omega, by omega, by omega, huntE_ok h⟩
  · rw [if_neg h1] at h; omega
theorem pow_12 {n : Int} (h : n ≤ 12) : (2 : Nat) ^ n.toNat ≤ 4096 := by
  have := Nat.pow_le_pow_right (by decide : 1 ≤ 2) (show n.toNat ≤ 12 by omega)
  simpa using this
end Go.Proofs.Ytkhnhkjihhhbbaa.P

namespace Go.Proofs.Ytkhnhkjihhhbbaa.P
open Go.RowKit Go.Proofs.YtkhnhkjihhhbbaaW.PrintWords Go.Proofs.YtkhnhkjihhhbbaaW.PrintLast Go.Proofs.YtkhnhkjihhhbbaaW.PrintMore
set_option linter.unusedVariables false
set_option linter.unusedSimpArgs false
section
variable {P : Program} {ops : Array Oper} {Q : Exit → Act → World → Prop}
/-- What is known while some operations (b) are done: J of the world; T of each done operation's value; all other places are as they were. -/
structure RIA (n : Nat) (d : Nat → Option Tmp) (T : Nat → Value → World → Prop) (J : (Nat → Bool) → Act → World → Prop) (a0 : Act) (b : Nat → Bool) (a : Act) (w : World) : Prop where
  j : J b a w
  t : ∀ i s, i < n → b i = true → d i = some s → ∃ v, a.tmps[s]? = some v ∧ T i v w
  off : ∀ s, (∀ i, i < n → d i ≠ some s) → a.tmps[s]? = a0.tmps[s]?
  size : a.tmps.size = a0.tmps.size
  defers : a.defers = a0.defers
/-- One operation: out of what is known, the operations that it waits for being done. -/
def OpStepA (P : Program) (ops : Array Oper) (Q : Exit → Act → World → Prop) (n : Nat) (B : List Nat) (d : Nat → Option Tmp) (T : Nat → Value → World → Prop) (J : (Nat → Bool) → Act → World → Prop) (a0 : Act) (i : Nat) : Prop :=
  ∀ b a w, RIA n d T J a0 b a w → b i = false → (∀ j, (decide (j < n) && (B.getD i 0).testBit j) = true → b j = true) → (∀ j, (decide (j < n) && (B.getD j 0).testBit i) = true → b j = false) →
    ∃ oi, ops[i]? = some oi ∧ oi.dst = d i ∧ ∀ K : Act → World → Prop, (∀ v w', J (up b i) (a.put (d i) v) w' → (∀ k u, T k u w → T k u w') → T i v w' → K (a.put (d i) v) w') →
      if Region.wanted oi (yielded ops a.tmps) = true then Oper.wp P oi a w K Q else K (a.put oi.dst undef) w
end
section
variable {n : Nat} {d : Nat → Option Tmp} {T : Nat → Value → World → Prop} {J : (Nat → Bool) → Act → World → Prop} {a0 : Act} {b : Nat → Bool} {a : Act} {w : World}
theorem RIA.old (hI : RIA n d T J a0 b a w) (s : Tmp) (hs : ∀ i, i < n → d i ≠ some s) {v : Value} (hv : a0.tmps[s]? = some v) : a.eval (.tmp s) = v := eval_of ((hI.off s hs).trans hv)
theorem RIA.new (hI : RIA n d T J a0 b a w) (s : Tmp) (i : Nat) (hi : i < n) (hb : b i = true) (hd : d i = some s) {x : Value} (hT : ∀ v, T i v w → v = x) : a.eval (.tmp s) = x := by
  obtain ⟨v, hv, h⟩ := hI.t i s hi hb hd
  rw [← hT v h]
  exact eval_of hv
theorem op_keepA {P : Program} {ops : Array Oper} {Q : Exit → Act → World → Prop} {i : Nat} {oi : Oper} {v : Value} (hI : RIA n d T J a0 b a w) (hJ : J (up b i) (a.put (d i) v) w) (ho : ops[i]? = some oi := by exact rfl) (hd : oi.dst = d i := by exact rfl) (hg : oi.guard = none := by exact rfl) (hT : T i v w := by exact rfl) (hrun : (execOp a.eval oi).run P w = .ok (.value v) w) :
    ∃ oi, ops[i]? = some oi ∧ oi.dst = d i ∧ ∀ K : Act → World → Prop, (∀ v w', J (up b i) (a.put (d i) v) w' → (∀ k u, T k u w → T k u w') → T i v w' → K (a.put (d i) v) w') →
      if Region.wanted oi (yielded ops a.tmps) = true then Oper.wp P oi a w K Q else K (a.put oi.dst undef) w :=
  ⟨oi, ho, hd, fun K hK => value_ (by simp [Region.wanted, hg]) rfl hrun (by rw [hd]; exact hK v w hJ (fun _ _ h => h) hT)⟩
end
section
variable {P : Program} {ops : Array Oper} {Q : Exit → Act → World → Prop}
theorem region_ria {id n : Nat} {B : List Nat} (d : Nat → Option Tmp) (T : Nat → Value → World → Prop) (J : (Nat → Bool) → Act → World → Prop) {a : Act} {w : World}
    (hm : P.follows .mixedOrders = true) (hn : ops.size = n) (hw : waitsOk (rtab .any ops).2 B = true) (hk : baseOk (rtab .any ops).2 (List.range n) = true) (hp : placesOk n d a.tmps.size = true)
    (h0 : J (fun _ => false) a w.drew)
    (hs : ∀ i, i < n → OpStepA P ops Q n B d T J a i)
    (hend : ∀ (vs : Nat → Value) w' b, (∀ j, j < n → b j = true) → J b (fillAll d vs (List.range n) a) w' → (∀ i, i < n → d i ≠ none → T i (vs i) w') → Q .normal (fillAll d vs (List.range n) a) w') : (Code.region id ops true).wp P Q a w := by
  have hlen : (rtab .any ops).2.length = n := by rw [rtab_length, hn]
  have hl : (lof (rtab .any ops).2.length (List.range n) (fun _ => false)) = List.replicate n false := by
    rw [hlen]
    apply List.ext_getElem?
    intro j
    by_cases hj : j < n
    · simp [lof, hj]
    · rw [List.getElem?_eq_none (by simp [lof]; omega), List.getElem?_eq_none (by simp; omega)]
  refine wp_region_last (S := fun _ => True) (ds := []) hm ?_
  rw [hn]
  have h1 := inv_all (P := P) (Q := Q) (md := .any) (ops := ops) (T := rtab .any ops) (B := B) (O := List.range n) rfl hw hk (RIA n d T J a) (fun i hi => ?_) (fun b a' w' hall hI => ?_) n (fun _ => false) a w.drew (hfil n) (fun dd r _ _ hb => by cases hb)
    ⟨h0, fun i s _ hb => (by cases hb), fun s _ => rfl, rfl, rfl⟩
  · rw [hl] at h1
    have : (List.replicate n false).toArray = Array.replicate n false := by simp
    rw [this] at h1
    exact h1
  · intro b a' w' hI hb hon hoff
    have hin : i < n := List.mem_range.1 hi
    have hcon : ∀ j, (List.range n).contains j = decide (j < n) := fun j => by
      by_cases hj : j < n
      · simp [hj]
      · simp [hj]
    obtain ⟨oi, ho, hd, hK⟩ := hs i hin b a' w' hI hb (fun j hj => hon j (by rw [hcon]; exact hj)) (fun j hj => hoff j (by rw [hcon]; exact hj))
    refine ⟨oi, ho, fun K hKK => hK K (fun v w2 hJ hT hTi => hKK _ _ ⟨hJ, fun k s hkn hbk hdk => ?_, fun s hs2 => ?_, put_size.trans hI.size, put_defers.trans hI.defers⟩)⟩
    · by_cases hki : k = i
      · subst hki
        refine ⟨v, ?_, hTi⟩
        rw [hdk, put_get, if_pos rfl, if_pos (by rw [hI.size]; exact (placesOk_lt hp hin hdk).1)]
      · rw [up_ne hki] at hbk
        obtain ⟨u, hu, hTu⟩ := hI.t k s hkn hbk hdk
        refine ⟨u, ?_, hT k u hTu⟩
        cases hdi : d i with
        | none => exact hu
        | some t => rw [put_get, if_neg (fun e => hki ((placesOk_lt hp hin (hdi.trans (by rw [e]))).2 k hkn hdk)), hu]
    · cases hdi : d i with
      | none => exact hI.off s hs2
      | some t => rw [put_get, if_neg (fun e => hs2 i hin (by rw [hdi, e]))]; exact hI.off s hs2
  · have hall' : ∀ j, j < n → b j = true := fun j hj => hall j (by simp [hj])
    have hex : ∃ vs : Nat → Value, ∀ i, i < n → ∀ s, d i = some s → a'.tmps[s]? = some (vs i) ∧ T i (vs i) w' := by
      have hone : ∀ i, ∃ v, i < n → ∀ s, d i = some s → a'.tmps[s]? = some v ∧ T i v w' := fun i => by
        by_cases hin : i < n
        · cases hdi : d i with
          | none => exact ⟨undef, fun _ s h => by cases h⟩
          | some t =>
            obtain ⟨v, hv, hT⟩ := hI.t i t hin (hall' i hin) hdi
            exact ⟨v, fun _ s h => by cases h; exact ⟨hv, hT⟩⟩
        · exact ⟨undef, fun h => absurd h hin⟩
      exact ⟨fun i => Classical.choose (hone i), fun i => Classical.choose_spec (hone i)⟩
    obtain ⟨vs, hvs⟩ := hex
    have ha : a' = fillAll d vs (List.range n) a := by
      have hsz := fillAll_size (d := d) (vs := vs) (List.range n) a
      have ht : a'.tmps = (fillAll d vs (List.range n) a).tmps := by
        apply Array.ext_getElem?
        intro s
        by_cases hex : ∃ i, i < n ∧ d i = some s
        · obtain ⟨i, hin, hdi⟩ := hex
          have hpl := placesOk_lt hp hin hdi
          rw [(hvs i hin s hdi).1, fillAll_on hdi (List.range n) a List.nodup_range (List.mem_range.2 hin) (fun j hj hjs => hpl.2 j (List.mem_range.1 hj) hjs) hpl.1]
        · have hno : ∀ i, i < n → d i ≠ some s := fun i hin hdi => hex ⟨i, hin, hdi⟩
          rw [hI.off s hno, fillAll_off (List.range n) a (fun i hi => hno i (List.mem_range.1 hi))]
      cases a'
      cases hf : fillAll d vs (List.range n) a
      rw [hf] at ht hsz
      simp only at ht
      have hdd := hI.defers
      simp only at hdd hsz
      rw [ht, hdd, ← hsz.2]
    have hj_ := hI.j
    rw [ha] at hj_ ⊢
    exact hend vs w' b hall' hj_ (fun i hin hdn => by
      cases hdi : d i with
      | none => exact absurd hdi hdn
      | some s => exact (hvs i hin s hdi).2)
end
end Go.Proofs.Ytkhnhkjihhhbbaa.P

