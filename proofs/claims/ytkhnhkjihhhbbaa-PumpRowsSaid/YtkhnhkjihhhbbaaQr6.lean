/- In a row of suspects, each beginning of which can be tested at the cost 1, the worst case of a hunt is the least k of which 2^k is at least their number: thermionlaw06.PumpRows returns true for every input, under no condition. -/
import Derived.Test.YtkhnhkjihhhbbaaQr5
import Derived.RangeFuncIn
import Derived.RangeFuncSeq
import Derived.RangeFuncRecord
import Derived.OwnWalkIn
import Derived.TacticsInMore
import Derived.LoopNIn
import Derived.LoopIn
import Derived.RegionIn
import Derived.Test.YtkhnhkjihhhbbaaQr3
import Derived.Test.YtkhnhkjihhhbbaaQr2
import Derived.RangeFuncLeaves
import Derived.Test.YtkhnhkjihhhbbaaQr4
import Derived.Test.YtkhnhkjihhhbbaaQr1
import Derived.Test.YtkhnhkjihhhbbaaRows
import Derived.WalkKit
import Derived.ProofKit
import Derived.OpenShut
import Derived.ShutString
import Derived.ChangeOld
import Derived.Below
import Derived.SizedLaws
namespace Go.Proofs.Ytkhnhkjihhhbbaa.P
open Go.RowKit Go.Proofs.YtkhnhkjihhhbbaaW.PrintWords Go.Proofs.YtkhnhkjihhhbbaaW.PrintLast Go.Proofs.YtkhnhkjihhhbbaaW.PrintMore
set_option linter.unusedVariables false
set_option linter.unusedSimpArgs false
/-- The rows of a valid system that came in with w0. -/
structure Ins (w0 : World) (A0 A1 A2 A3 A4 : Option Addr) (c0 c1 c2 c3 c4 : Nat) (l0 : List S36) (l1 : List S138) (l2 : List S112) (l3 : List S140) (l4 : List S142) : Prop where
  r0 : Kd.C k36 w0 A0 l0.length l0
  r1 : Kd.C k138 w0 A1 l1.length l1
  r2 : Kd.C k112 w0 A2 l2.length l2
  r3 : Kd.C k140 w0 A3 l3.length l3
  r4 : Kd.C k142 w0 A4 l4.length l4
  q0 : l0.length ≤ c0
  q1 : l1.length ≤ c1
  q2 : l2.length ≤ c2
  q3 : l3.length ≤ c3
  q4 : l4.length ≤ c4
  m0 : l0.length ≤ 8 ∧ l1.length ≤ 16 ∧ l2.length ≤ 8 ∧ l3.length ≤ 8 ∧ l4.length ≤ 8
  hp : 0 < l0.length
  pp : ∀ x ∈ l1, 0 ≤ x.f0 ∧ x.f0 < (l0.length : Int) ∧ 0 ≤ x.f1 ∧ x.f1 < (l0.length : Int)
  lk : ∀ x ∈ l3, 0 ≤ x.f0 ∧ x.f0 < (l0.length : Int)
  gt : ∀ x ∈ l4, 0 ≤ x.f0 ∧ x.f0 < (l0.length : Int)
def begS0 (l0 : List S36) (l4 : List S142) : St := ⟨(begF l0 [] [] 0).1, (begF l0 [] [] 0).2.1, begR l4 [], (begF l0 [] [] 0).2.2, false⟩
/-- A tick of a stage. -/
def stepT (l0 : List S36) (l1 : List S138) (l2 : List S112) (l3 : List S140) (l4 : List S142) (S : St) (s : S45) : St := tickS l0 l1 l2 l3 l4 s.f1 s.f2 s.f3 S.F S.Bd S.Rm S.mo S.fl
/-- The stages of a run, one for each tick. -/
def allT (l : List S45) : List S45 := l.flatMap fun s => List.replicate s.f0.toNat s
/-- The system after k ticks. -/
def stT (l0 : List S36) (l1 : List S138) (l2 : List S112) (l3 : List S140) (l4 : List S142) (T : List S45) (k : Nat) : St := (T.take k).foldl (stepT l0 l1 l2 l3 l4) (begS0 l0 l4)
theorem stT_succ {l0 : List S36} {l1 : List S138} {l2 : List S112} {l3 : List S140} {l4 : List S142} {T : List S45} {k : Nat} {s : S45} (h : T[k]? = some s) : stT l0 l1 l2 l3 l4 T (k + 1) = stepT l0 l1 l2 l3 l4 (stT l0 l1 l2 l3 l4 T k) s := by
  unfold stT
  rw [List.take_add_one, h]
  simp
theorem stT_len (l0 : List S36) (l1 : List S138) (l2 : List S112) (l3 : List S140) (l4 : List S142) (T : List S45) : ∀ k, (stT l0 l1 l2 l3 l4 T k).F.length = l0.length ∧ (stT l0 l1 l2 l3 l4 T k).Bd.length = l0.length ∧ (stT l0 l1 l2 l3 l4 T k).Rm.length = l4.length := by
  intro k
  unfold stT
  have h0 : (begS0 l0 l4).F.length = l0.length ∧ (begS0 l0 l4).Bd.length = l0.length ∧ (begS0 l0 l4).Rm.length = l4.length := by
    unfold begS0
    simp [(begF_len _ _ _ _).1, (begF_len _ _ _ _).2, begR_len]
  generalize begS0 l0 l4 = S at h0
  generalize T.take k = L
  induction L generalizing S with
  | nil => exact h0
  | cons s L ih =>
    rw [List.foldl_cons]
    refine ih _ ?_
    unfold stepT
    have := tickS_len l0 l1 l2 l3 l4 s.f1 s.f2 s.f3 S.F S.Bd S.Rm S.mo S.fl
    omega
/-- What a round of the loop's body leaves: all but the blocks M. -/
structure Kept (M : Nat → Prop) (W W' : World) : Prop where
  os : W'.os = W.os
  tape : W'.tape = W.tape
  output : W'.output = W.output
  size : W.heap.size ≤ W'.heap.size
  block : ∀ k, k < W.heap.size → ¬ M k → W'.heap[k]? = W.heap[k]?
/-- A system in state S, at xb, in world W. -/
def At (w0 : World) (A0 A1 A2 A3 A4 : Option Addr) (c0 c1 c2 c3 c4 : Nat) (l0 : List S36) (l1 : List S138) (l2 : List S112) (l3 : List S140) (l4 : List S142) (B xb : Nat) (S : St) (W : World) (N : Nat → Prop := fun _ => False) : Prop :=
  ∃ fb bb rb cF cB vR, (∀ k, N k → k ≠ xb ∧ k ≠ fb ∧ k ≠ bb ∧ k ≠ rb) ∧ B ≤ xb ∧ B ≤ fb ∧ B ≤ bb ∧ B ≤ rb ∧ Env w0 W xb fb bb rb A0 A1 A2 A3 A4 c0 c1 c2 c3 c4 l0 l1 l2 l3 l4 ∧ Sys xb fb bb rb A0 A1 A2 A3 A4 c0 c1 c2 c3 c4 cF cB vR l0 l1 l2 l3 l4 S.F S.Bd S.Rm S.mo S.fl W ∧ (0 < l4.length → ∃ cR, vR = .slice (some ⟨rb, 0, none⟩) l4.length cR)
theorem At.below0 {w0 : World} {A0 A1 A2 A3 A4 : Option Addr} {c0 c1 c2 c3 c4 : Nat} {l0 : List S36} {l1 : List S138} {l2 : List S112} {l3 : List S140} {l4 : List S142} {B xb : Nat} {S : St} {W : World} {N : Nat → Prop}
    (h : At w0 A0 A1 A2 A3 A4 c0 c1 c2 c3 c4 l0 l1 l2 l3 l4 B xb S W N) : Below w0.heap.size w0 W := by
  obtain ⟨fb, bb, rb, cF, cB, vR, hav, g0, g1, g2, g3, hE, _⟩ := h
  exact hE.h0
theorem At.kept {w0 : World} {A0 A1 A2 A3 A4 : Option Addr} {c0 c1 c2 c3 c4 : Nat} {l0 : List S36} {l1 : List S138} {l2 : List S112} {l3 : List S140} {l4 : List S142} {B xb : Nat} {S : St} {W W' : World} {M N : Nat → Prop}
    (h : At w0 A0 A1 A2 A3 A4 c0 c1 c2 c3 c4 l0 l1 l2 l3 l4 B xb S W N) (hk : Kept M W W') (hM : ∀ k, M k → w0.heap.size ≤ k ∧ k < B) : At w0 A0 A1 A2 A3 A4 c0 c1 c2 c3 c4 l0 l1 l2 l3 l4 B xb S W' N := by
  obtain ⟨fb, bb, rb, cF, cB, vR, hav, g0, g1, g2, g3, hE, hS, hv⟩ := h
  have hn : ∀ k, B ≤ k → ¬ M k := fun k hk2 hm => by have := (hM k hm).2; omega
  refine ⟨fb, bb, rb, cF, cB, vR, hav, g0, g1, g2, g3, { hE with h0 := ?_, t1 := ?_, t2 := ?_, t3 := ?_, t4 := ?_ }, ⟨(hk.block _ hE.t1 (hn _ g0)).trans hS.box, hS.rF.same (fun hl => hk.block _ hl (hn _ g1)), hS.rB.same (fun hl => hk.block _ hl (hn _ g2)), hS.rR.same (fun hl => hk.block _ hl (hn _ g3))⟩, hv⟩
  · exact ⟨hk.os.trans hE.h0.os, hk.tape.trans hE.h0.tape, hk.output.trans hE.h0.output, Nat.le_trans hE.h0.size hk.size, fun i hi => (hk.block i (Nat.lt_of_lt_of_le hi hE.h0.size) (fun hm => by have := (hM i hm).1; omega)).trans (hE.h0.block i hi)⟩
  · exact Nat.lt_of_lt_of_le hE.t1 hk.size
  · exact Nat.lt_of_lt_of_le hE.t2 hk.size
  · exact Nat.lt_of_lt_of_le hE.t3 hk.size
  · exact Nat.lt_of_lt_of_le hE.t4 hk.size
theorem At.below {w0 : World} {A0 A1 A2 A3 A4 : Option Addr} {c0 c1 c2 c3 c4 : Nat} {l0 : List S36} {l1 : List S138} {l2 : List S112} {l3 : List S140} {l4 : List S142} {B xb : Nat} {S : St} {W W' : World} {N : Nat → Prop}
    (h : At w0 A0 A1 A2 A3 A4 c0 c1 c2 c3 c4 l0 l1 l2 l3 l4 B xb S W N) (hb : Below W.heap.size W W') : At w0 A0 A1 A2 A3 A4 c0 c1 c2 c3 c4 l0 l1 l2 l3 l4 B xb S W' N :=
  h.kept (M := fun _ => False) ⟨hb.os, hb.tape, hb.output, hb.size, fun k hk _ => hb.block k hk⟩ (fun _ hm => hm.elim)
theorem At.more {w0 : World} {A0 A1 A2 A3 A4 : Option Addr} {c0 c1 c2 c3 c4 : Nat} {l0 : List S36} {l1 : List S138} {l2 : List S112} {l3 : List S140} {l4 : List S142} {B xb : Nat} {S : St} {W : World} {N N' : Nat → Prop}
    (h : At w0 A0 A1 A2 A3 A4 c0 c1 c2 c3 c4 l0 l1 l2 l3 l4 B xb S W N) (hN : ∀ k, N' k → N k ∨ W.heap.size ≤ k) : At w0 A0 A1 A2 A3 A4 c0 c1 c2 c3 c4 l0 l1 l2 l3 l4 B xb S W N' := by
  obtain ⟨fb, bb, rb, cF, cB, vR, hav, g0, g1, g2, g3, hE, hS, hv⟩ := h
  refine ⟨fb, bb, rb, cF, cB, vR, fun k hk => ?_, g0, g1, g2, g3, hE, hS, hv⟩
  rcases hN k hk with h1 | h1
  · exact hav k h1
  · have := hE.t1; have := hE.t2; have := hE.t3; have := hE.t4
    refine ⟨?_, ?_, ?_, ?_⟩ <;> omega
theorem allT_cons (s : S45) (l : List S45) : allT (s :: l) = List.replicate s.f0.toNat s ++ allT l := by unfold allT; rw [List.flatMap_cons]
section
variable {w0 w : World} {A0 A1 A2 A3 A4 A5 : Option Addr} {c0 c1 c2 c3 c4 c5 : Nat} {l0 : List S36} {l1 : List S138} {l2 : List S112} {l3 : List S140} {l4 : List S142} {l5 : List S45}
set_option maxHeartbeats 8000000 in
set_option maxRecDepth 100000 in
theorem ticks1_any {p2 p3 l m : Nat} (hI : Ins w0 A0 A1 A2 A3 A4 c0 c1 c2 c3 c4 l0 l1 l2 l3 l4) (hr5 : Kd.C k45 w0 A5 l5.length l5) (hc5 : l5.length ≤ c5) (hm5 : l5.length ≤ 20)
    (hst : ∀ s ∈ l5, 0 ≤ s.f0 ∧ s.f0 ≤ 2000 ∧ 0 ≤ s.f1 ∧ s.f2.length ≤ 100) (h0 : Below w0.heap.size w0 w) (hb2 : w.heap[p2]? = some (.cells #[.slice A0 l0.length c0, .slice A1 l1.length c1, .slice A2 l2.length c2, .slice A3 l3.length c3, .slice A4 l4.length c4] 29 (0, 0))) (hb3 : w.heap[p3]? = some (.cells #[.slice A5 l5.length c5] 46 (0, 0)))
    (M : Nat → Prop) (hM : ∀ k, M k → w0.heap.size ≤ k ∧ k < w.heap.size ∧ k ≠ p2 ∧ k ≠ p3) (J : Nat → Nat → World → Prop) (JD : Nat → Nat → World → Prop)
    (hJ : ∀ xb k W W', Below w.heap.size W W' → J xb k W → J xb k W') (hJ0 : ∀ xb, J xb 0 w)
    (hY : ∀ xb k W, k ≤ (allT l5).length → J xb k W → At w0 A0 A1 A2 A3 A4 c0 c1 c2 c3 c4 l0 l1 l2 l3 l4 w.heap.size xb (stT l0 l1 l2 l3 l4 (allT l5) k) W →
      YieldAt Fence.wide m Try.prog l #[.pointer (some ⟨xb, 0, none⟩)] W fun e W' => (e = .returned (.bool true) ∧ J xb (k + 1) W' ∧ Kept M W W') ∨ (e = .returned (.bool false) ∧ JD xb k W')) :
    Calls Try.prog 121 #[.func (.yield l) #[] #[], .pointer (some ⟨p2, 0, none⟩), .pointer (some ⟨p3, 0, none⟩)] w fun e w' => (∃ v, e = .returned v) ∧
      ((∃ xb, J xb ((allT l5).length + 1) w' ∧ At w0 A0 A1 A2 A3 A4 c0 c1 c2 c3 c4 l0 l1 l2 l3 l4 w.heap.size xb (stT l0 l1 l2 l3 l4 (allT l5) (allT l5).length) w') ∨ ∃ xb k, k ≤ (allT l5).length ∧ JD xb k w') := by
  have HI := Aside0.mk hI
  have HR5 := Aside0.mk hr5
  have HC5 := Aside0.mk hc5
  have HM5 := Aside0.mk hm5
  have HST := Aside0.mk hst
  have HW0 := Aside0.mk h0
  have Bp2 := Aside0.mk hb2
  have Bp3 := Aside0.mk hb3
  have HMM := Aside0.mk hM
  have HJ := Aside0.mk hJ
  have HJ0 := Aside0.mk hJ0
  have HY := Aside0.mk hY
  clear hI hr5 hc5 hm5 hst h0 hb2 hb3 hM hJ hJ0 hY
  have HB := Aside0.mk (Below.refl w.heap.size w)
  obtain ⟨cp2_0, cp2_1, cp2_2, cp2_3, cp2_4⟩ := cells5 Bp2.out; 
  go_enter Try.func121, Try.ntmps121
  go_wp2
  refine region_ri (n := 6) (B := [0, 0, 2, 7, 15, 31]) (fun o_ => match o_ with | 0 => some 7 | 1 => some 8 | 2 => some 9 | 3 => some 10 | 4 => some 11 | 5 => some 4 | _ => none) (fun o_ q_ w' => match o_ with | 0 => q_ = .agg #[.slice A0 l0.length c0, .slice A1 l1.length c1, .slice A2 l2.length c2, .slice A3 l3.length c3, .slice A4 l4.length c4] | 1 => q_ = .agg #[.slice A0 l0.length c0, .slice A1 l1.length c1, .slice A2 l2.length c2, .slice A3 l3.length c3, .slice A4 l4.length c4] | 2 => (∃ vF_ vB_ vR_ j1_ j2_ j3_, q_ = .agg #[vF_, vB_, vR_, .int .i64 (begF l0 [] [] 0).2.2, .bool false] ∧ Gas w.heap.size vF_ vB_ vR_ (begF l0 [] [] 0).1 (begF l0 [] [] 0).2.1 (begR l4 []) j1_ j2_ j3_ w') | 3 => (∃ vF_ vB_ vR_ j1_ j2_ j3_, q_ = .agg #[.slice A0 l0.length c0, .slice A1 l1.length c1, .slice A2 l2.length c2, .slice A3 l3.length c3, .slice A4 l4.length c4, vF_, vB_, vR_, .int .i64 (begF l0 [] [] 0).2.2, .bool false] ∧ Gas w.heap.size vF_ vB_ vR_ (begF l0 [] [] 0).1 (begF l0 [] [] 0).2.1 (begR l4 []) j1_ j2_ j3_ w') | 4 => (∃ vF_ vB_ vR_ j1_ j2_ j3_ x_, q_ = .pointer (some ⟨x_, 0, none⟩) ∧ Gas w.heap.size vF_ vB_ vR_ (begF l0 [] [] 0).1 (begF l0 [] [] 0).2.1 (begR l4 []) j1_ j2_ j3_ w' ∧ w.heap.size ≤ x_ ∧ w'.heap[x_]? = some (.cells #[.slice A0 l0.length c0, .slice A1 l1.length c1, .slice A2 l2.length c2, .slice A3 l3.length c3, .slice A4 l4.length c4, vF_, vB_, vR_, .int .i64 (begF l0 [] [] 0).2.2, .bool false] 119 (0, 0)) ∧ j1_ ≠ x_ ∧ j2_ ≠ x_ ∧ j3_ ≠ x_) | 5 => (∃ vF_ vB_ vR_ j1_ j2_ j3_ x_, q_ = .pointer (some ⟨x_, 0, none⟩) ∧ Gas w.heap.size vF_ vB_ vR_ (begF l0 [] [] 0).1 (begF l0 [] [] 0).2.1 (begR l4 []) j1_ j2_ j3_ w' ∧ w.heap.size ≤ x_ ∧ w'.heap[x_]? = some (.cells #[.slice A0 l0.length c0, .slice A1 l1.length c1, .slice A2 l2.length c2, .slice A3 l3.length c3, .slice A4 l4.length c4, vF_, vB_, vR_, .int .i64 (begF l0 [] [] 0).2.2, .bool false] 119 (0, 0)) ∧ j1_ ≠ x_ ∧ j2_ ≠ x_ ∧ j3_ ≠ x_) | _ => True) (fun b w' => Aside0 (Below w.heap.size w w') ∧ Aside0 (w'.heap[p2]? = some (.cells #[.slice A0 l0.length c0, .slice A1 l1.length c1, .slice A2 l2.length c2, .slice A3 l3.length c3, .slice A4 l4.length c4] 29 (0, 0))) ∧ Aside0 (w'.heap[p3]? = some (.cells #[.slice A5 l5.length c5] 46 (0, 0)))) rfl rfl (by kernel_rfl) (by kernel_rfl) (by kernel_rfl) ⟨⟨below_drew ((bel_r HB))⟩, ⟨blk_below (Bp2.out) (below_drew (Below.refl _ _))⟩, ⟨blk_below (Bp3.out) (below_drew (Below.refl _ _))⟩⟩ ?_ ?_
  · intro o_ hi
    match o_, hi with
    | 0, _ =>
      intro b a wq hI hbi_ hb_ hoff_
      have e1 : a.eval (.tmp 1) = .pointer (some ⟨p2, 0, none⟩) := hI.old 1 (by decide) rfl
      have s1 := sv_ e1
      have hJ := hI.j
      obtain ⟨HBq, qp2, qp3⟩ := hJ
      obtain ⟨cp2_0, cp2_1, cp2_2, cp2_3, cp2_4⟩ := cells5 qp2.out
      exact op_keep hI (i := 0) ⟨HBq, qp2, qp3⟩ (hrun := gs_)
    | 1, _ =>
      intro b a wq hI hbi_ hb_ hoff_
      have e1 : a.eval (.tmp 1) = .pointer (some ⟨p2, 0, none⟩) := hI.old 1 (by decide) rfl
      have s1 := sv_ e1
      have hJ := hI.j
      obtain ⟨HBq, qp2, qp3⟩ := hJ
      obtain ⟨cp2_0, cp2_1, cp2_2, cp2_3, cp2_4⟩ := cells5 qp2.out
      exact op_keep hI (i := 1) ⟨HBq, qp2, qp3⟩ (hrun := gs_)
    | 2, _ =>
      intro b a wq hI hbi_ hb_ hoff_
      have e8 := hI.new 8 1 (by decide) (hb_ 1 (by decide)) rfl fun _ h => h
      have s8 := sv_ e8
      have hJ := hI.j
      obtain ⟨HBq, qp2, qp3⟩ := hJ
      obtain ⟨cp2_0, cp2_1, cp2_2, cp2_3, cp2_4⟩ := cells5 qp2.out
      refine ⟨_, rfl, rfl, fun K hK => ?_⟩
      refine goes_ Try.func84 (by kernel_rfl) rfl #[.agg #[.slice A0 l0.length c0, .slice A1 l1.length c1, .slice A2 l2.length c2, .slice A3 l3.length c3, .slice A4 l4.length c4]] rfl rfl rfl (by simp [e8]) ?_
      refine (begun_any l0 l1 l2 l3 l4 A0 A1 A2 A3 A4 c0 c1 c2 c3 c4 wq (Kd.C_below HI.out.r0 (HW0.out.trans (HBq.out.mono HW0.out.size))) (Kd.C_below HI.out.r4 (HW0.out.trans (HBq.out.mono HW0.out.size))) HI.out.q0 HI.out.q4 HI.out.m0.1 HI.out.m0.2.2.2.2).mono ?_
      rintro e w2 ⟨vF_, vB_, vR_, rfl, g1_, g2_, g3_, d1_, d2_, d3_, hb2, j1_, j2_, j3_, ⟨u1_, v1_⟩, ⟨u2_, v2_⟩, ⟨u3_, v3_⟩, n1_, n2_, n3_⟩
      have hs_ := HBq.out.size
      exact ⟨_, rfl, hK _ _ ⟨⟨below_step HBq.out hb2⟩, ⟨blk_below qp2.out hb2⟩, ⟨blk_below qp3.out hb2⟩⟩ (fun k u hk => by revert hk; match k with | 0 => exact id | 1 => exact id | 2 => exact (fun ⟨a_, b_, c_, d_, e_, f_, h1_, h2_⟩ => ⟨a_, b_, c_, d_, e_, f_, h1_, h2_.below hb2⟩) | 3 => exact (fun ⟨a_, b_, c_, d_, e_, f_, h1_, h2_⟩ => ⟨a_, b_, c_, d_, e_, f_, h1_, h2_.below hb2⟩) | 4 => exact (fun ⟨a_, b_, c_, d_, e_, f_, g_, h1_, h2_, h3_, h4_, h5_⟩ => ⟨a_, b_, c_, d_, e_, f_, g_, h1_, h2_.below hb2, h3_, blk_below h4_ hb2, h5_⟩) | 5 => exact (fun ⟨a_, b_, c_, d_, e_, f_, g_, h1_, h2_, h3_, h4_, h5_⟩ => ⟨a_, b_, c_, d_, e_, f_, g_, h1_, h2_.below hb2, h3_, blk_below h4_ hb2, h5_⟩) | k + 6 => exact id) ⟨vF_, vB_, vR_, j1_, j2_, j3_, rfl, Kd.R_lower g1_ hs_, Kd.R_lower g2_ hs_, Kd.R_lower g3_ hs_, d1_, d2_, d3_, ⟨Nat.le_trans hs_ u1_, v1_⟩, ⟨Nat.le_trans hs_ u2_, v2_⟩, ⟨Nat.le_trans hs_ u3_, v3_⟩, n1_, n2_, n3_⟩⟩
    | 3, _ =>
      intro b a wq hI hbi_ hb_ hoff_
      have e7 := hI.new 7 0 (by decide) (hb_ 0 (by decide)) rfl fun _ h => h
      have s7 := sv_ e7
      obtain ⟨y9, hy9, vF_, vB_, vR_, j1_, j2_, j3_, rfl, hG_⟩ := hI.t 2 9 (by decide) (hb_ 2 (by decide)) rfl
      have e9 := eval_of hy9
      have s9 : a.tmps[9]?.getD undef = .agg #[vF_, vB_, vR_, .int .i64 (begF l0 [] [] 0).2.2, .bool false] := by simpa [Act.eval] using e9
      have hJ := hI.j
      obtain ⟨HBq, qp2, qp3⟩ := hJ
      obtain ⟨cp2_0, cp2_1, cp2_2, cp2_3, cp2_4⟩ := cells5 qp2.out
      refine ⟨_, rfl, rfl, fun K hK => ?_⟩
      refine value_ (N := some 10) rfl rfl (v := .agg #[.slice A0 l0.length c0, .slice A1 l1.length c1, .slice A2 l2.length c2, .slice A3 l3.length c3, .slice A4 l4.length c4, vF_, vB_, vR_, .int .i64 (begF l0 [] [] 0).2.2, .bool false]) (w1 := wq) gs_ (hK _ _ ⟨HBq, qp2, qp3⟩ (fun _ _ h => h) ⟨vF_, vB_, vR_, j1_, j2_, j3_, rfl, hG_⟩)
    | 4, _ =>
      intro b a wq hI hbi_ hb_ hoff_
      obtain ⟨y10, hy10, vF_, vB_, vR_, j1_, j2_, j3_, rfl, hG_⟩ := hI.t 3 10 (by decide) (hb_ 3 (by decide)) rfl
      have e10 := eval_of hy10
      have s10 : a.tmps[10]?.getD undef = .agg #[.slice A0 l0.length c0, .slice A1 l1.length c1, .slice A2 l2.length c2, .slice A3 l3.length c3, .slice A4 l4.length c4, vF_, vB_, vR_, .int .i64 (begF l0 [] [] 0).2.2, .bool false] := by simpa [Act.eval] using e10
      have hJ := hI.j
      obtain ⟨HBq, qp2, qp3⟩ := hJ
      obtain ⟨cp2_0, cp2_1, cp2_2, cp2_3, cp2_4⟩ := cells5 qp2.out
      refine ⟨_, rfl, rfl, fun K hK => ?_⟩
      obtain ⟨AF_, nF_, hvF_⟩ := Kd.R_slice hG_.rF
      obtain ⟨AB_, nB_, hvB_⟩ := Kd.R_slice hG_.rB
      obtain ⟨AR_, nR_, hvR_⟩ := Kd.R_slice hG_.rR
      subst hvF_ hvB_ hvR_
      refine value_ (N := some 11) rfl rfl (v := .pointer (some ⟨wq.heap.size, 0, none⟩)) (w1 := wq.alloc (.cells #[.slice A0 l0.length c0, .slice A1 l1.length c1, .slice A2 l2.length c2, .slice A3 l3.length c3, .slice A4 l4.length c4, (.slice AF_ (begF l0 [] [] 0).1.length nF_), (.slice AB_ (begF l0 [] [] 0).2.1.length nB_), (.slice AR_ (begR l4 []).length nR_), .int .i64 (begF l0 [] [] 0).2.2, .bool false] 119)) gs_ (hK _ _ ⟨⟨below_step HBq.out (below_alloc (Below.refl _ _) _)⟩, ⟨blk_below qp2.out (below_alloc (Below.refl _ _) _)⟩, ⟨blk_below qp3.out (below_alloc (Below.refl _ _) _)⟩⟩ (fun k u hk => by revert hk; match k with | 0 => exact id | 1 => exact id | 2 => exact (fun ⟨a_, b_, c_, d_, e_, f_, h1_, h2_⟩ => ⟨a_, b_, c_, d_, e_, f_, h1_, h2_.below (below_alloc (Below.refl _ _) _)⟩) | 3 => exact (fun ⟨a_, b_, c_, d_, e_, f_, h1_, h2_⟩ => ⟨a_, b_, c_, d_, e_, f_, h1_, h2_.below (below_alloc (Below.refl _ _) _)⟩) | 4 => exact (fun ⟨a_, b_, c_, d_, e_, f_, g_, h1_, h2_, h3_, h4_, h5_⟩ => ⟨a_, b_, c_, d_, e_, f_, g_, h1_, h2_.below (below_alloc (Below.refl _ _) _), h3_, blk_below h4_ (below_alloc (Below.refl _ _) _), h5_⟩) | 5 => exact (fun ⟨a_, b_, c_, d_, e_, f_, g_, h1_, h2_, h3_, h4_, h5_⟩ => ⟨a_, b_, c_, d_, e_, f_, g_, h1_, h2_.below (below_alloc (Below.refl _ _) _), h3_, blk_below h4_ (below_alloc (Below.refl _ _) _), h5_⟩) | k + 6 => exact id) ⟨_, _, _, j1_, j2_, j3_, wq.heap.size, rfl, hG_.below (below_alloc (Below.refl _ _) _), HBq.out.size, heap_alloc_new wq _, ?_, ?_, ?_⟩)
      · obtain ⟨_, _, _, h_, _⟩ := hG_.k1; exact Nat.ne_of_lt (blk_lt h_)
      · obtain ⟨_, _, _, h_, _⟩ := hG_.k2; exact Nat.ne_of_lt (blk_lt h_)
      · obtain ⟨_, _, _, h_, _⟩ := hG_.k3; exact Nat.ne_of_lt (blk_lt h_)
    | 5, _ =>
      intro b a wq hI hbi_ hb_ hoff_
      obtain ⟨y11, hy11, hT11⟩ := hI.t 4 11 (by decide) (hb_ 4 (by decide)) rfl
      have e11 := eval_of hy11
      have s11 : a.tmps[11]?.getD undef = y11 := by simpa [Act.eval] using e11
      have hJ := hI.j
      obtain ⟨HBq, qp2, qp3⟩ := hJ
      obtain ⟨cp2_0, cp2_1, cp2_2, cp2_3, cp2_4⟩ := cells5 qp2.out
      refine ⟨_, rfl, rfl, fun K hK => ?_⟩
      refine value_ (N := some 4) rfl rfl (v := y11) (w1 := wq) gs_ (hK _ _ ⟨HBq, qp2, qp3⟩ (fun _ _ h => h) hT11)
    | o_ + 6, hi => exact absurd hi (by omega)
  intro vs wn b_ hall hJ hT
  obtain ⟨HJ0, HT0⟩ : Aside0 _ ∧ Aside0 _ := ⟨⟨hJ⟩, ⟨hT⟩⟩
  clear hall hJ hT
  have t0_ := HT0.out 0 (by decide) (by decide)
  have t1_ := HT0.out 1 (by decide) (by decide)
  obtain ⟨u9_, t9_⟩ : ∃ u, vs 2 = u := ⟨_, rfl⟩
  obtain ⟨u10_, t10_⟩ : ∃ u, vs 3 = u := ⟨_, rfl⟩
  obtain ⟨u11_, t11_⟩ : ∃ u, vs 4 = u := ⟨_, rfl⟩
  obtain ⟨vF, vB, vR, j1, j2, j3, xb, t5_, hG_, gx_, hx_, x1_, x2_, x3_⟩ := HT0.out 5 (by decide) (by decide)
  simp only [fillAll, show List.range 6 = [0, 1, 2, 3, 4, 5] from rfl]
  rw [(show vs 0 = _ from t0_), (show vs 1 = _ from t1_), t9_, t10_, t11_, (show vs 5 = _ from t5_)]
  clear t0_ t1_ t9_ t10_ t11_ t5_ HT0
  simp only [Act.put, List.setIfInBounds_toArray, List.set_cons_zero, List.set_cons_succ]
  clear HB Bp2 Bp3
  obtain ⟨HB, Bp2, Bp3⟩ := HJ0.out
  clear HJ0
  go_upto_region 1 with fail
  have hAt : At w0 A0 A1 A2 A3 A4 c0 c1 c2 c3 c4 l0 l1 l2 l3 l4 w.heap.size xb (stT l0 l1 l2 l3 l4 (allT l5) 0) wn := by
    have hl := stT_len l0 l1 l2 l3 l4 (allT l5) 0
    obtain ⟨fb, bb, rb, cF, cB, g1, g2, g3, hEnv, hSys, hvR⟩ := sys_of_gas (fl := false) HW0.out.size (HW0.out.trans (HB.out.mono HW0.out.size)) hG_ gx_ hx_ x1_ x2_ x3_ hl.1 hl.2.1 hl.2.2 HI.out.hp HI.out.r0 HI.out.r1 HI.out.r2 HI.out.r3 HI.out.r4 HI.out.q0 HI.out.q1 HI.out.q2 HI.out.q3 HI.out.q4 HI.out.m0
    exact ⟨fb, bb, rb, cF, cB, vR, fun _ hk => hk.elim, gx_, g1, g2, g3, hEnv, hSys, hvR⟩
  clear hG_ gx_ hx_ x1_ x2_ x3_
  obtain ⟨fn, tm, asg, bod, hy, hR⟩ := HY.out xb 0 wn (by omega) (HJ.out xb 0 w wn HB.out (HJ0.out xb)) hAt
  refine (wpIn_wide (n := m + 1)).1 ?_
  gi_wp2
  refine hR.mono ?_
  rintro e W3 (⟨rfl, hJ3, hk3⟩ | ⟨rfl, hD3⟩)
  · have hM2 : ∀ k, M k → w0.heap.size ≤ k ∧ k < w.heap.size := fun k hk => ⟨(HMM.out k hk).1, (HMM.out k hk).2.1⟩
    have HM2 := Aside0.mk hM2
    clear hM2
    have HAt := Aside0.mk (hAt.kept hk3 HM2.out)
    have HJ1 := Aside0.mk hJ3
    have HSZ : Aside0 (w.heap.size ≤ W3.heap.size) := ⟨Nat.le_trans HB.out.size hk3.size⟩
    have nBp3 : Aside0 (W3.heap[p3]? = some (.cells #[.slice A5 l5.length c5] 46 (0, 0))) := ⟨(hk3.block p3 (blk_lt Bp3.out) (fun hm => (HMM.out p3 hm).2.2.2 rfl)).trans Bp3.out⟩
    clear hAt hy hR hk3 hJ3 Bp2 Bp3 HB
    have Bp3 := nBp3
    clear nBp3
    gi_wp2
    have cp3_0 := cells1 Bp3.out; 
    go_wp2
    (try clear cp3_0)
    go_loopg [18] (l5.length) (fun k v18 w' => ∃ (i : Int) (n : Nat), 0 ≤ i ∧ k = l5.length - i.toNat ∧ i ≤ l5.length ∧ v18 = .int .i64 i ∧ Aside0 (n ≤ (allT l5).length ∧ (allT l5).drop n = allT (l5.drop i.toNat)) ∧ Aside0 (w.heap.size ≤ w'.heap.size) ∧ Aside0 (J xb (n + 1) w') ∧ Aside0 (At w0 A0 A1 A2 A3 A4 c0 c1 c2 c3 c4 l0 l1 l2 l3 l4 w.heap.size xb (stT l0 l1 l2 l3 l4 (allT l5) n) w'))
    case atStart => exact ⟨0, 0, by omega, by simp, by omega, rfl, ⟨by omega, by simp⟩, HSZ, HJ1, HAt⟩
    case round =>
      clear HSZ HJ1 HAt
      obtain ⟨i, n, hi0, hn, hi, rfl, HE, HSZ, HJ1, HAt⟩ := hrel
      have Hn := Aside0.mk hn
      clear hn
      by_cases hi' : i < l5.length
      · have HD : Aside0 (l5.drop i.toNat = (rd_T45 l5 i) :: l5.drop (i + 1).toNat) := ⟨by
  rw [show (i + 1).toNat = i.toNat + 1 by omega, List.drop_eq_getElem_cons (by omega)]; unfold rd_T45; simp [List.getD_eq_getElem?_getD, List.getElem?_eq_getElem (show i.toNat < l5.length by omega)]⟩
        have hsv := Aside0.mk (HST.out (rd_T45 l5 i) (List.mem_of_mem_drop (HD.out ▸ List.mem_cons_self)))
        obtain ⟨ad, A6, c6, had, k0, k1, k2, k3, hc6_, hr6_⟩ := at_T45 HR5.out i hi0 hi'
        replace k0 := pw_cell_below HAt.out.below0 k0
        replace k1 := pw_cell_below HAt.out.below0 k1
        replace k2 := pw_cell_below HAt.out.below0 k2
        replace k3 := pw_cell_below HAt.out.below0 k3
        have hc6 := Aside0.mk hc6_
        have hr6 := Aside0.mk hr6_
        clear hc6_ hr6_
        cases had
        have hm3 := HM5.out
        have HB := Aside0.mk (Below.refl wr.heap.size wr)
        go_wp2_with (first | ((with_reducible refine gate_dst (N := 6) rfl ?_); go_must (refine box_ev (N := 6) (cs := #[.int .i64 0, .int .i64 0, .slice none 0 0, .bool false]) (t := 45) (h := ?_); intro p6 hgp6 w6 hbox hb; have GEp6 := ge_new HB hgp6; replace HB := bel_b hb HB; have Bp6 := Aside0.mk hbox; clear hbox; obtain ⟨cp6_0, cp6_1, cp6_2, cp6_3⟩ := cells4 Bp6.out; (try clear hb); clear hgp6)) | ((with_reducible refine gate_store (t := 45) (p := 6) rfl ?_); go_must (refine row_ev p6 #[.int .i64 (rd_T45 l5 i).f0, .int .i64 (rd_T45 l5 i).f1, .slice A6 (rd_T45 l5 i).f2.length c6, .bool (rd_T45 l5 i).f3] Bp6.out (h := ?_); intro w7 hbox ho_; replace HB := bel_o ho_ HB GEp6; replace Bp6 := Aside0.mk hbox; clear hbox ho_; (try clear cp6_0 cp6_1 cp6_2 cp6_3); obtain ⟨cp6_0, cp6_1, cp6_2, cp6_3⟩ := cells4 Bp6.out; )))
        have nSZ : Aside0 (w.heap.size ≤ w7.heap.size) := ⟨Nat.le_trans HSZ.out HB.out.size⟩
        have nJ1 : Aside0 (J xb (n + 1) w7) := ⟨HJ.out xb _ wr w7 (HB.out.mono HSZ.out) HJ1.out⟩
        have nAt : Aside0 (At w0 A0 A1 A2 A3 A4 c0 c1 c2 c3 c4 l0 l1 l2 l3 l4 w.heap.size xb (stT l0 l1 l2 l3 l4 (allT l5) n) w7 (fun q => q = p6)) := ⟨(HAt.out.more (fun q hq => .inr (by rw [hq]; exact GEp6.out))).below HB.out⟩
        have HP6 : Aside0 (w.heap.size ≤ p6) := ⟨Nat.le_trans HSZ.out GEp6.out⟩
        clear HSZ HJ1 HAt HB GEp6 k0 k1 k2 k3
        (try clear cp6_0 cp6_1 cp6_2 cp6_3)
        go_loopg [24] ((rd_T45 l5 i).f0.toNat) (fun k v24 w' => ∃ (j : Int) (n : Nat), 0 ≤ j ∧ k = (rd_T45 l5 i).f0.toNat - j.toNat ∧ j ≤ (rd_T45 l5 i).f0 ∧ v24 = .int .i64 j ∧ Aside0 (n ≤ (allT l5).length ∧ (allT l5).drop n = List.replicate ((rd_T45 l5 i).f0.toNat - j.toNat) (rd_T45 l5 i) ++ allT (l5.drop (i + 1).toNat)) ∧ Aside0 (w.heap.size ≤ w'.heap.size) ∧ Aside0 (J xb (n + 1) w') ∧ Aside0 (At w0 A0 A1 A2 A3 A4 c0 c1 c2 c3 c4 l0 l1 l2 l3 l4 w.heap.size xb (stT l0 l1 l2 l3 l4 (allT l5) n) w' (fun q => q = p6)) ∧ Aside0 (w'.heap[p6]? = some (.cells #[.int .i64 (rd_T45 l5 i).f0, .int .i64 (rd_T45 l5 i).f1, .slice A6 (rd_T45 l5 i).f2.length c6, .bool (rd_T45 l5 i).f3] 45 (0, 0))))
        case atStart => exact ⟨0, n, by omega, by simp, hsv.out.1, rfl, ⟨HE.out.1, by rw [HE.out.2, HD.out, allT_cons]; simp⟩, nSZ, nJ1, nAt, Bp6⟩
        case round =>
          clear nSZ nJ1 nAt Bp6 HE
          obtain ⟨j, n, hj0, hnj, hj, rfl, HE, HSZ, HJ1, HAt, Bp6⟩ := hrel
          have Hnj := Aside0.mk hnj
          clear hnj
          obtain ⟨cp6_0, cp6_1, cp6_2, cp6_3⟩ := cells4 Bp6.out; 
          by_cases hj' : j < (rd_T45 l5 i).f0
          · obtain ⟨fb, bb, rb, cF, cB, vR, hav_, g0_, g1_, g2_, g3_, hE_, hS_, hv_⟩ := HAt.out
            have hEnv := Aside0.mk hE_
            have hSys := Aside0.mk hS_
            have hvR := Aside0.mk hv_
            have hav := Aside0.mk (hav_ p6 rfl)
            have hgs := Aside0.mk (And.intro g0_ (And.intro g1_ (And.intro g2_ g3_)))
            have hlen := Aside0.mk (stT_len l0 l1 l2 l3 l4 (allT l5) n)
            clear hE_ hS_ hv_ hav_ g0_ g1_ g2_ g3_ HAt
            have hrep : List.replicate ((rd_T45 l5 i).f0.toNat - j.toNat) (rd_T45 l5 i) = (rd_T45 l5 i) :: List.replicate ((rd_T45 l5 i).f0.toNat - (j + 1).toNat) (rd_T45 l5 i) := by
              rw [show (rd_T45 l5 i).f0.toNat - j.toNat = ((rd_T45 l5 i).f0.toNat - (j + 1).toNat) + 1 by omega, List.replicate_succ]
            have HT : Aside0 ((allT l5)[n]? = some (rd_T45 l5 i) ∧ n + 1 ≤ (allT l5).length ∧ (allT l5).drop (n + 1) = List.replicate ((rd_T45 l5 i).f0.toNat - (j + 1).toNat) (rd_T45 l5 i) ++ allT (l5.drop (i + 1).toNat)) := ⟨by
              have h1 := HE.out.2
              rw [hrep, List.cons_append] at h1
              have h2 : (allT l5)[n]? = some (rd_T45 l5 i) := by
                have := congrArg (fun L => L[0]?) h1
                simpa [List.getElem?_drop] using this
              refine ⟨h2, (List.getElem?_eq_some_iff.1 h2).1, ?_⟩
              have h3 := congrArg List.tail h1
              rwa [List.tail_drop, List.tail_cons] at h3⟩
            clear hrep
            have hm4 := hsv.out.2.1
            go_upto_region 8 with (first | ((with_reducible refine gate_callee (f := 116) rfl ?_); go_must (refine goesL_ (some 28) rfl rfl Try.func116 (by kernel_rfl) rfl #[.pointer (some ⟨xb, 0, none⟩), .agg #[.int .i64 (rd_T45 l5 i).f0, .int .i64 (rd_T45 l5 i).f1, .slice A6 (rd_T45 l5 i).f2.length c6, .bool (rd_T45 l5 i).f3]] rfl (by (try simp only [List.map_toArray, List.map_cons, List.map_nil]); first | done | rfl) ?_; (with_reducible refine (tick_any hEnv.out hSys.out hsv.out.2.2.1 hr6.out hc6.out hsv.out.2.2.2 hlen.out.1 HI.out.pp HI.out.lk HI.out.gt hvR.out).mono ?_); rintro e w9 ⟨⟨_, rfl⟩, ha_, hs_⟩; refine ⟨_, rfl, ?_⟩; have HA := Aside0.mk ha_; have HS2 := Aside0.mk hs_; clear ha_ hs_)))
            have HB9 : Aside0 (Below w.heap.size wr w9) := ⟨HA.out.below (Below.refl _ _) HSZ.out hgs.out.1 hgs.out.2.1 hgs.out.2.2.1 hgs.out.2.2.2⟩
            have hAt : At w0 A0 A1 A2 A3 A4 c0 c1 c2 c3 c4 l0 l1 l2 l3 l4 w.heap.size xb (stT l0 l1 l2 l3 l4 (allT l5) (n + 1)) w9 (fun q => q = p6) := by
              rw [stT_succ HT.out.1]
              exact ⟨fb, bb, rb, cF, cB, vR, fun k hk => by rw [hk]; exact hav.out, hgs.out.1, hgs.out.2.1, hgs.out.2.2.1, hgs.out.2.2.2, hEnv.out.apart HA.out, HS2.out, hvR.out⟩
            have nBp6 : Aside0 (w9.heap[p6]? = some (.cells #[.int .i64 (rd_T45 l5 i).f0, .int .i64 (rd_T45 l5 i).f1, .slice A6 (rd_T45 l5 i).f2.length c6, .bool (rd_T45 l5 i).f3] 45 (0, 0))) := ⟨HA.out.blk Bp6.out hav.out.1 hav.out.2.1 hav.out.2.2.1 hav.out.2.2.2⟩
            have nSZ : Aside0 (w.heap.size ≤ w9.heap.size) := ⟨Nat.le_trans HSZ.out HA.out.size⟩
            have nJ : J xb (n + 1) w9 := HJ.out xb _ wr w9 HB9.out HJ1.out
            (try clear cp6_0 cp6_1 cp6_2 cp6_3)
            clear Bp6 HSZ HJ1 HA HS2 hEnv hSys hvR hav hgs hlen HB9
            have Bp6 := nBp6
            have HSZ := nSZ
            clear nBp6 nSZ
            obtain ⟨fn, tm, asg, bod, hy, hR⟩ := HY.out xb (n + 1) w9 HT.out.2.1 nJ (hAt.more (fun _ hk => hk.elim))
            refine (wpIn_wide (n := m + 1)).1 ?_
            gi_wp2
            refine hR.mono ?_
            rintro e W3 (⟨rfl, hJ3, hk3⟩ | ⟨rfl, hD3⟩)
            · have nAt := Aside0.mk (hAt.kept hk3 HM2.out)
              have nJ1 := Aside0.mk hJ3
              have nSZ : Aside0 (w.heap.size ≤ W3.heap.size) := ⟨Nat.le_trans HSZ.out hk3.size⟩
              have nBp6 : Aside0 (W3.heap[p6]? = some (.cells #[.int .i64 (rd_T45 l5 i).f0, .int .i64 (rd_T45 l5 i).f1, .slice A6 (rd_T45 l5 i).f2.length c6, .bool (rd_T45 l5 i).f3] 45 (0, 0))) := ⟨(hk3.block p6 (blk_lt Bp6.out) (fun hm => by have := (HM2.out p6 hm).2; have := HP6.out; omega)).trans Bp6.out⟩
              clear hAt nJ hy hR hk3 hJ3 Bp6 HSZ
              gi_wp2
              go_wp2
              go_roundg ((rd_T45 l5 i).f0.toNat - (j + 1).toNat)
              case measure => have := Hnj.out; omega
              case rel => exact ⟨j + 1, n + 1, by omega, rfl, by omega, rfl, ⟨HT.out.2.1, HT.out.2.2⟩, nSZ, nJ1, nAt, nBp6⟩
            · gi_wp2
              go_wp2
              refine bodyPost_ret (results_none rfl _ _ _) rfl ?_
              exact ⟨⟨_, rfl⟩, .inr ⟨xb, n + 1, HT.out.2.1, hD3⟩⟩
          · have HE2 : Aside0 (n ≤ (allT l5).length ∧ (allT l5).drop n = allT (l5.drop (i + 1).toNat)) := ⟨HE.out.1, by rw [HE.out.2, show (rd_T45 l5 i).f0.toNat - j.toNat = 0 by omega]; rfl⟩
            have nAt := Aside0.mk (HAt.out.more (N' := fun _ => False) (fun _ hk => hk.elim))
            go_wp2
            go_roundg (l5.length - (i + 1).toNat)
            case measure => have := Hn.out; omega
            case rel => exact ⟨i + 1, n, by omega, rfl, by omega, rfl, HE2, HSZ, HJ1, nAt⟩
      · have HE2 : Aside0 (n = (allT l5).length) := ⟨by
          have h1 := HE.out.2
          rw [List.drop_eq_nil_of_le (show l5.length ≤ i.toNat by omega)] at h1
          have h2 := List.drop_eq_nil_iff.1 (show (allT l5).drop n = [] from h1)
          have := HE.out.1
          omega⟩
        go_wp2
        go_end0
        exact ⟨⟨_, rfl⟩, .inl ⟨xb, by rw [← HE2.out]; exact HJ1.out, by rw [← HE2.out]; exact HAt.out⟩⟩
  · gi_wp2
    go_wp2
    refine bodyPost_ret (results_none rfl _ _ _) rfl ?_
    exact ⟨⟨_, rfl⟩, .inr ⟨xb, 0, by omega, hD3⟩⟩
end
end Go.Proofs.Ytkhnhkjihhhbbaa.P

namespace Go.Proofs.Ytkhnhkjihhhbbaa.P
open Go.RowKit Go.Proofs.YtkhnhkjihhhbbaaW.PrintWords Go.Proofs.YtkhnhkjihhhbbaaW.PrintLast Go.Proofs.YtkhnhkjihhhbbaaW.PrintMore
set_option linter.unusedVariables false
set_option linter.unusedSimpArgs false
def TicksAs (A0 A1 A2 A3 A4 A5 : Option Addr) (c0 c1 c2 c3 c4 c5 n5 : Nat) (l0 : List S36) (l1 : List S138) (l2 : List S112) (l3 : List S140) (l4 : List S142) (w : World) (e : Ending) (w' : World) : Prop :=
  ∃ p2 p3, e = .returned (.func (.func 121) #[] #[.pointer (some ⟨p2, 0, none⟩), .pointer (some ⟨p3, 0, none⟩)]) ∧ w.heap.size ≤ p2 ∧ w.heap.size ≤ p3 ∧ p2 ≠ p3 ∧ w'.heap[p2]? = some (.cells #[.slice A0 l0.length c0, .slice A1 l1.length c1, .slice A2 l2.length c2, .slice A3 l3.length c3, .slice A4 l4.length c4] 29 (0, 0)) ∧ w'.heap[p3]? = some (.cells #[.slice A5 n5 c5] 46 (0, 0)) ∧ Below w.heap.size w w'
set_option maxHeartbeats 4000000 in
theorem ticks_any (A0 A1 A2 A3 A4 A5 : Option Addr) (c0 c1 c2 c3 c4 c5 n5 : Nat) (l0 : List S36) (l1 : List S138) (l2 : List S112) (l3 : List S140) (l4 : List S142) (w : World) :
    Calls Try.prog 74 #[.agg #[.slice A0 l0.length c0, .slice A1 l1.length c1, .slice A2 l2.length c2, .slice A3 l3.length c3, .slice A4 l4.length c4], .slice A5 n5 c5] w (TicksAs A0 A1 A2 A3 A4 A5 c0 c1 c2 c3 c4 c5 n5 l0 l1 l2 l3 l4 w) := by
  have HB := Aside0.mk (Below.refl w.heap.size w)
  have hmf : ∀ (fn : Fn) (first cap : Array Value) (w : World), (Instr.makeFunc fn first cap).run Try.prog w = .ok (.func fn first cap) w := fun _ _ _ _ => rfl
  go_enter Try.func74, Try.ntmps74
  go_wp2_with (first | ((with_reducible refine gate_dst (N := 2) rfl ?_); go_must (refine box_ev (N := 2) (cs := #[.slice A0 l0.length c0, .slice A1 l1.length c1, .slice A2 l2.length c2, .slice A3 l3.length c3, .slice A4 l4.length c4]) (t := 29) (h := ?_); intro p2 hgp2 w1 hbox hb; have GEp2 := ge_new HB hgp2; replace HB := bel_b hb HB; have Bp2 := Aside0.mk hbox; clear hbox; obtain ⟨cp2_0, cp2_1, cp2_2, cp2_3, cp2_4⟩ := cells5 Bp2.out; (try clear hb); clear hgp2)) | ((with_reducible refine gate_dst (N := 3) rfl ?_); go_must (refine box_ev (N := 3) (cs := #[.slice A5 n5 c5]) (t := 46) (h := ?_); intro p3 hgp3 w2 hbox hb; have GEp3 := ge_new HB hgp3; have N_p2_p3 := ne_new Bp2 hgp3; replace HB := bel_b hb HB; replace Bp2 := blk_b hb Bp2; (try clear cp2_0 cp2_1 cp2_2 cp2_3 cp2_4); obtain ⟨cp2_0, cp2_1, cp2_2, cp2_3, cp2_4⟩ := cells5 Bp2.out; have Bp3 := Aside0.mk hbox; clear hbox; have cp3_0 := cells1 Bp3.out; (try clear hb); clear hgp3)))
  go_ret
  exact ⟨p2, p3, rfl, GEp2.out, GEp3.out, N_p2_p3.out, Bp2.out, Bp3.out, (bel_r HB)⟩
end Go.Proofs.Ytkhnhkjihhhbbaa.P

namespace Go.Proofs.Ytkhnhkjihhhbbaa.P
open Go.RowKit Go.Proofs.YtkhnhkjihhhbbaaW.PrintWords Go.Proofs.YtkhnhkjihhhbbaaW.PrintLast Go.Proofs.YtkhnhkjihhhbbaaW.PrintMore
set_option linter.unusedVariables false
set_option linter.unusedSimpArgs false
theorem fromB_iff {n lo hi : Int} : fromB n lo hi = true ↔ lo ≤ n ∧ n ≤ hi := by unfold fromB; simp
theorem shutE_len (np : Nat) (hn : np ≤ 1000) : ∀ (l : List Int) (last : Int), -1 ≤ last → shutE np l last = 0 → (l.length : Int) ≤ np - 1 - last ∨ l = []
  | [], _, _, _ => .inr rfl
  | p :: l, last, h1, h => by
    rw [shutE] at h
    by_cases hf : fromB p 0 (wrap64 ((np : Int) - 1)) = true
    · rw [if_pos hf] at h
      obtain ⟨hp0, hp1⟩ := fromB_iff.1 hf
      rw [Go.IntWalk.wrap64_in _ (by omega)] at hp1
      by_cases hx : p ≤ last
      · rw [if_pos hx] at h; omega
      · rw [if_neg hx] at h
        rcases shutE_len np hn l p (by omega) h with h2 | h2
        · left; simp only [List.length_cons]; omega
        · left; rw [h2]; simp only [List.length_cons, List.length_nil]; omega
    · rw [if_neg hf] at h; omega
theorem stageV_ok {np : Nat} (hn : np ≤ 1000) {s : S45} (h : stageV np s = 0) : 0 ≤ s.f0 ∧ s.f0 ≤ 2000 ∧ 0 ≤ s.f1 ∧ s.f1 ≤ 2000 ∧ s.f2.length ≤ np := by
  unfold stageV at h
  by_cases h1 : fromB s.f0 0 2000 = true
  · rw [if_pos h1] at h
    by_cases h2 : fromB s.f1 0 2000 = true
    · rw [if_pos h2] at h
      obtain ⟨a1, a2⟩ := fromB_iff.1 h1
      obtain ⟨b1, b2⟩ := fromB_iff.1 h2
      refine ⟨a1, a2, b1, b2, ?_⟩
      rcases shutE_len np hn s.f2 (-1) (by omega) h with h3 | h3
      · omega
      · rw [h3]; simp
    · rw [if_neg h2] at h; omega
  · rw [if_neg h1] at h; omega
theorem stagesE_ok {np : Nat} : ∀ (l : List S45) (t : Int), stagesE np l t = 0 → ∀ s ∈ l, stageV np s = 0
  | [], _, _, s, hs => by cases hs
  | x :: l, t, h, s, hs => by
    rw [stagesE] at h
    by_cases hx : stageV np x = 0
    · rw [if_pos hx] at h
      rcases List.mem_cons.1 hs with rfl | hs
      · exact hx
      · exact stagesE_ok l _ h s hs
    · rw [if_neg hx] at h; exact absurd h hx
theorem everyE_ok {α : Type} {E : α → Int} : ∀ {l : List α}, everyE E l = 0 → ∀ x ∈ l, E x = 0
  | [], _, x, hx => by cases hx
  | y :: l, h, x, hx => by
    rw [everyE] at h
    by_cases hy : E y = 0
    · rw [if_neg (by simpa using hy)] at h
      rcases List.mem_cons.1 hx with rfl | hx
      · exact hy
      · exact everyE_ok h x hx
    · rw [if_pos hy] at h; exact absurd h hy
theorem firstE_ok : ∀ {l : List Int}, firstE l = 0 → ∀ x ∈ l, x = 0
  | [], _, x, hx => by cases hx
  | y :: l, h, x, hx => by
    rw [firstE] at h
    by_cases hy : y = 0
    · rw [if_neg (by simpa using hy)] at h
      rcases List.mem_cons.1 hx with rfl | hx
      · exact hy
      · exact firstE_ok h x hx
    · rw [if_pos hy] at h; exact absurd h hy
theorem spanE_ok {lo hi most : Int} (h : spanE lo hi most = 0) : 0 ≤ lo ∧ lo ≤ hi ∧ hi ≤ most := by
  unfold spanE at h
  split at h
  · omega
  · split at h
    · omega
    · split at h <;> omega
theorem atE_ok {n v lo hi most : Int} (h : atE n v lo hi most = 0) : 0 ≤ v ∧ v < n ∧ 0 ≤ lo ∧ lo ≤ hi ∧ hi ≤ most := by
  unfold atE at h
  by_cases hf : fromB v 0 (n - 1) = false
  · rw [if_pos hf] at h; omega
  · rw [if_neg hf] at h
    have h2 := fromB_iff.1 (by simpa using hf)
    have := spanE_ok h
    omega
/-- A valid system. -/
structure Valid (l0 : List S36) (l1 : List S138) (l2 : List S112) (l3 : List S140) (l4 : List S142) : Prop where
  hp : 0 < l0.length
  m0 : l0.length ≤ 8 ∧ l1.length ≤ 16 ∧ l2.length ≤ 8 ∧ l3.length ≤ 8 ∧ l4.length ≤ 8
  ve : ∀ x ∈ l0, vesselE x = 0
  pi : ∀ x ∈ l1, 0 ≤ x.f0 ∧ x.f0 < (l0.length : Int) ∧ 0 ≤ x.f1 ∧ x.f1 < (l0.length : Int) ∧ x.f0 ≠ x.f1 ∧ 0 ≤ x.f2.f0 ∧ x.f2.f0 ≤ x.f2.f1 ∧ x.f2.f1 ≤ 1000000 ∧ 0 ≤ x.f3.f0 ∧ x.f3.f0 ≤ x.f3.f1 ∧ x.f3.f1 ≤ 1000000
  pu : ∀ x ∈ l2, 0 ≤ x.f0 ∧ x.f0 < (l0.length : Int) ∧ 0 ≤ x.f1.f0 ∧ x.f1.f0 ≤ x.f1.f1 ∧ x.f1.f1 ≤ 1000000
  lk : ∀ x ∈ l3, 0 ≤ x.f0 ∧ x.f0 < (l0.length : Int) ∧ 0 ≤ x.f1.f0 ∧ x.f1.f0 ≤ x.f1.f1 ∧ x.f1.f1 ≤ 100000
  gt : ∀ x ∈ l4, 0 ≤ x.f0 ∧ x.f0 < (l0.length : Int) ∧ 0 ≤ x.f1.f0 ∧ x.f1.f0 ≤ x.f1.f1 ∧ x.f1.f1 ≤ 1000000 ∧ 0 ≤ x.f2.f0 ∧ x.f2.f0 ≤ x.f2.f1 ∧ x.f2.f1 ≤ 1000000000
  lv : ∀ x ∈ leavingL l1 l2 [], x.2.f1 ≤ 1000000
theorem check_ok {l0 : List S36} {l1 : List S138} {l2 : List S112} {l3 : List S140} {l4 : List S142} (h : checkV l0 l1 l2 l3 l4 = 0) : Valid l0 l1 l2 l3 l4 := by
  unfold checkV at h
  by_cases h1 : l0.length = 0
  · rw [if_pos h1] at h; omega
  rw [if_neg h1] at h
  by_cases h2 : 8 < l0.length
  · rw [if_pos h2] at h; omega
  rw [if_neg h2] at h
  by_cases h3 : 16 < l1.length
  · rw [if_pos h3] at h; omega
  rw [if_neg h3] at h
  by_cases h4 : 8 < max (max l2.length l3.length) l4.length
  · rw [if_pos h4] at h; omega
  rw [if_neg h4] at h
  by_cases h5 : firstE [everyE vesselE l0, everyE (pipeE l0.length) l1, everyE (pumpE l0.length) l2, everyE (leakE l0.length) l3, everyE (getterE l0.length) l4] = 0
  · rw [if_neg (by simpa using h5)] at h
    have hf := firstE_ok h5
    have e0 := hf _ (List.mem_cons_self)
    have e1 := hf (everyE (pipeE l0.length) l1) (by simp)
    have e2 := hf (everyE (pumpE l0.length) l2) (by simp)
    have e3 := hf (everyE (leakE l0.length) l3) (by simp)
    have e4 := hf (everyE (getterE l0.length) l4) (by simp)
    refine ⟨by omega, by omega, everyE_ok e0, fun x hx => ?_, fun x hx => atE_ok (everyE_ok e2 x hx), fun x hx => atE_ok (everyE_ok e3 x hx), fun x hx => ?_, fun x hx => ?_⟩
    · have hx := everyE_ok e1 x hx
      unfold pipeE at hx
      by_cases a1 : fromB x.f0 0 ((l0.length : Int) - 1) = false
      · rw [if_pos a1] at hx; omega
      rw [if_neg a1] at hx
      by_cases a2 : fromB x.f1 0 ((l0.length : Int) - 1) = false
      · rw [if_pos a2] at hx; omega
      rw [if_neg a2] at hx
      by_cases a3 : x.f0 = x.f1
      · rw [if_pos a3] at hx; omega
      rw [if_neg a3] at hx
      have b1 := fromB_iff.1 (by simpa using a1)
      have b2 := fromB_iff.1 (by simpa using a2)
      by_cases a4 : spanE x.f2.f0 x.f2.f1 1000000 = 0
      · rw [if_neg (by simpa using a4)] at hx
        have c1 := spanE_ok a4
        have c2 := spanE_ok hx
        omega
      · rw [if_pos a4] at hx; exact absurd hx a4
    · have hx := everyE_ok e4 x hx
      unfold getterE at hx
      by_cases a4 : atE l0.length x.f0 x.f1.f0 x.f1.f1 1000000 = 0
      · rw [if_neg (by simpa using a4)] at hx
        have c1 := atE_ok a4
        have c2 := spanE_ok hx
        omega
      · rw [if_pos a4] at hx; exact absurd hx a4
    · by_cases hl : (leavingL l1 l2 []).any (fun x => decide (1000000 < x.2.f1)) = true
      · rw [if_pos hl] at h; omega
      · have := fun hx2 => hl (List.any_eq_true.2 ⟨x, hx, hx2⟩)
        simp at this
        omega
  · rw [if_pos h5] at h; exact absurd h h5
end Go.Proofs.Ytkhnhkjihhhbbaa.P

namespace Go.Proofs.Ytkhnhkjihhhbbaa.P
open Go.RowKit Go.Proofs.YtkhnhkjihhhbbaaW.PrintWords Go.Proofs.YtkhnhkjihhhbbaaW.PrintLast Go.Proofs.YtkhnhkjihhhbbaaW.PrintMore
set_option linter.unusedVariables false
set_option linter.unusedSimpArgs false
section
variable {w : World} {n g g' : Nat} {u v : Value} {l l' : List S32}
theorem RW.of_row (h : Row w g v l) (hn : n ≤ g) : RW w n v l := by
  obtain ⟨h0, inner, ho, hr⟩ := h
  refine ⟨fun _ _ => trivial, inner, ⟨ho.1, ?_⟩, hr.imp_ (fun p c hp => by obtain rfl := k32_openM hp; exact k32_mkM _ _ _ _)⟩
  rcases ho.2 with h1 | ⟨g', cap, cur, e, hb, rest⟩
  · exact .inl h1
  · exact .inr ⟨g', cap, cur, e, by have := h0 g' (by rw [e]; rfl); omega, rest⟩
theorem Dis.of_row (hu : Row w g u l) (hv : Row w g' v l') (hne : g ≠ g') : Dis u v := fun k hk e => hne ((hu.1 k hk).symm.trans (hv.1 k e.symm))
end
/-- A loop over the iterator of a run: its record and its block for deferred calls are laid; the iterator is called. -/
theorem range_ticks {gp : Operand} {ps : Array Tmp} {assign body : Code} {Q : Exit → Act → World → Prop} {a : Act} {W : World} {p2 p3 : Nat}
    (hg : a.eval gp = .func (.func 121) #[] #[.pointer (some ⟨p2, 0, none⟩), .pointer (some ⟨p3, 0, none⟩)])
    (h : ∀ (fn : FuncId) (l D : Nat) (W1 : World) (rec : Loop), rec = { state := .ready, pending := none, fn := fn, tmps := a.tmps, params := ps, assign := assign, body := body, defers := D } → W.heap.size ≤ D → D < l → Below W.heap.size W W1 →
      W1.heap[l]? = some (.loop rec) → W1.heap[D]? = some (.deferred (some [])) →
      Calls Try.prog 121 #[.func (.yield l) #[] #[], .pointer (some ⟨p2, 0, none⟩), .pointer (some ⟨p3, 0, none⟩)] W1 (rangePost Fence.wide 1 Try.prog l Q { a with defers := { target := .collected D, args := #[] } :: a.defers })) :
    (Code.rangeFunc gp ps assign body).wp Try.prog Q a W := by
  refine (wpIn_wide (n := 1)).1 (wpIn_rangeFunc ?_)
  intro fn _
  obtain ⟨W1, hW1⟩ : ∃ W1, (W.alloc (.deferred (some []))).alloc (.loop { state := .ready, pending := none, fn := fn, tmps := a.tmps, params := ps, assign := assign, body := body, defers := W.heap.size }) = W1 := ⟨_, rfl⟩
  refine ⟨W.heap.size + 1, [{ target := .collected W.heap.size, args := #[] }], W1, { target := .fn (.func 121) #[.pointer (some ⟨p2, 0, none⟩), .pointer (some ⟨p3, 0, none⟩)], args := #[.func (.yield (W.heap.size + 1)) #[] #[]] }, W1, 121,
    #[.func (.yield (W.heap.size + 1)) #[] #[], .pointer (some ⟨p2, 0, none⟩), .pointer (some ⟨p3, 0, none⟩)], W1, ?_, ?_, ?_, ?_, fun _ => Nat.le_refl _, ?_⟩
  · rw [← hW1]; exact run_enterLoop_outer _ _ _ _ _
  · simp only [resolve, hg]
    simp [go_sem]
  · intro f' hf'; trivial
  · have he : ∀ args w, (callFunc 121 args).run Try.prog w = .ok (.enter 121 args) w := fun args w => enters_ Try.func121 (by kernel_rfl) rfl args w
    simp [invoke, go_sem, he]
  · have hb1 := below_alloc (Below.refl W.heap.size W) (.deferred (some []))
    have hb2 := below_alloc (Below.refl (W.alloc (.deferred (some []))).heap.size (W.alloc (.deferred (some [])))) (.loop { state := .ready, pending := none, fn := fn, tmps := a.tmps, params := ps, assign := assign, body := body, defers := W.heap.size })
    rw [← hW1]
    refine callsIn_wide.2 (h fn (W.heap.size + 1) W.heap.size _ _ rfl (Nat.le_refl _) (Nat.lt_succ_self _) (below_step hb1 hb2) ?_ ?_)
    · have := World.alloc_heap_new (W.alloc (.deferred (some []))) (.loop { state := .ready, pending := none, fn := fn, tmps := a.tmps, params := ps, assign := assign, body := body, defers := W.heap.size })
      rwa [World.size_alloc] at this
    · exact blk_below (World.alloc_heap_new W _) hb2
end Go.Proofs.Ytkhnhkjihhhbbaa.P

namespace Go.Proofs.Ytkhnhkjihhhbbaa.P
open Go.RowKit Go.Proofs.YtkhnhkjihhhbbaaW.PrintWords Go.Proofs.YtkhnhkjihhhbbaaW.PrintLast Go.Proofs.YtkhnhkjihhhbbaaW.PrintMore
set_option linter.unusedVariables false
set_option linter.unusedSimpArgs false
/-- A round of a loop over the iterator of a run: its record is ready; the body is walked from a world in which it is busy. -/
theorem round_at {l m : Nat} {W : World} {rec : Loop} {x : Value} {R : Ending → World → Prop} (hL : W.heap[l]? = some (.loop rec)) (h1 : rec.state = .ready) (h3 : rec.params = #[19])
    (h : ∀ W2, Only l W W2 → W2.heap[l]? = some (.loop { rec with state := .busy }) → rec.assign.wpIn (Fence.wide.inRound l) m Try.prog (Exit.then (fun a₁ w₁ => w₁ = W ∧ rec.body.wpIn (Fence.wide.inRound l) m Try.prog (roundPost Try.prog l R) a₁ W2) (fun _ _ _ => False)) { tmps := rec.tmps.setIfInBounds 19 x, defers := [] } W) :
    YieldAt Fence.wide m Try.prog l #[x] W R := by
  refine ⟨rec.fn, rec.tmps.setIfInBounds 19 x, rec.assign, rec.body, ?_, roundIn_of_wpIn trivial ?_⟩
  · have := run_yield (P := Try.prog) (args := #[x]) hL (by rw [h3]; rfl)
    rw [this, h3]
    simp
  · have hl : l < W.heap.size := (Array.getElem?_eq_some_iff.1 hL).1
    refine wpIn_mono (h (W.putObj l (.loop { rec with state := .busy })) ⟨rfl, rfl, rfl, by simp [World.putObj], fun k hk => World.putObj_heap_other hk⟩ (World.putObj_heap_same hl)) ?_
    intro e a w hq
    cases e with
    | normal =>
      obtain ⟨rfl, hb⟩ := hq
      exact ⟨_, run_beginRound hL h1, hb⟩
    | exit id => exact hq.elim
    | goto t => exact hq.elim
    | ret => exact hq.elim
    | panic chain => exact hq.elim
    | outgrown => exact hq.elim
theorem end_round {l : Nat} {W : World} {rec : Loop} {R : Ending → World → Prop} {a : Act} (hL : W.heap[l]? = some (.loop rec))
    (h : ∀ W', W'.heap[l]? = some (.loop { rec with state := .ready, pending := none }) → Only l W W' → R (.returned (.bool true)) W') : roundPost Try.prog l R .normal a W := by
  have hl : l < W.heap.size := (Array.getElem?_eq_some_iff.1 hL).1
  exact ⟨_, _, run_endRound none hL, h _ (World.putObj_heap_same hl) ⟨rfl, rfl, rfl, by simp [World.putObj], fun k hk => World.putObj_heap_other hk⟩⟩
theorem end_loop {l n : Nat} {W : World} {rec : Loop} {Q : Exit → Act → World → Prop} {a : Act} {v : Value} (hL : W.heap[l]? = some (.loop rec)) (h1 : rec.state = .ready) (h2 : rec.pending = none)
    (h : ∀ W', Only l W W' → Q .normal a W') : rangePost Fence.wide n Try.prog l Q a (.returned v) W := by
  refine ⟨_, _, run_endLoop hL (by rw [h1]; intro h; cases h), ?_⟩
  rw [h2]
  exact h _ ⟨rfl, rfl, rfl, by simp [World.putObj], fun k hk => World.putObj_heap_other hk⟩
theorem Kept.refl (M : Nat → Prop) (W : World) : Kept M W W := ⟨rfl, rfl, rfl, Nat.le_refl _, fun _ _ _ => rfl⟩
theorem Kept.trans {M : Nat → Prop} {A B C : World} (h : Kept M A B) (h2 : Kept M B C) : Kept M A C :=
  ⟨h2.os.trans h.os, h2.tape.trans h.tape, h2.output.trans h.output, Nat.le_trans h.size h2.size, fun k hk hm => (h2.block k (Nat.lt_of_lt_of_le hk h.size) hm).trans (h.block k hk hm)⟩
theorem Kept.then_below {M : Nat → Prop} {A B C : World} (h : Kept M A B) (hb : Below A.heap.size B C) : Kept M A C :=
  ⟨hb.os.trans h.os, hb.tape.trans h.tape, hb.output.trans h.output, Nat.le_trans h.size hb.size, fun k hk hm => (hb.block k hk).trans (h.block k hk hm)⟩
theorem Kept.blk {M : Nat → Prop} {A B : World} {k : Nat} {o : Obj} (h : Kept M A B) (hb : A.heap[k]? = some o) (hm : ¬ M k) : B.heap[k]? = some o := (h.block k (blk_lt hb) hm).trans hb
theorem Kept.only {M : Nat → Prop} {A B : World} {g : Nat} (ho : Only g A B) (hg : M g) : Kept M A B :=
  ⟨ho.os, ho.tape, ho.output, by rw [ho.size]; exact Nat.le_refl _, fun k _ hm => ho.block k (fun e => hm (by rw [e]; exact hg))⟩
theorem Kept.below {M : Nat → Prop} {A B : World} {n : Nat} (h : Kept M A B) (hm : ∀ k, M k → n ≤ k) (hn : n ≤ A.heap.size) : Below n A B :=
  ⟨h.os, h.tape, h.output, h.size, fun k hk => h.block k (by omega) (fun hk2 => by have := hm k hk2; omega)⟩
/-- At a return: the loop's block for deferred calls is shut. -/
theorem ret_marked {n : Nat} {fn : Func} {R : Ending → World → Prop} {a : Act} {W : World} {D : Nat} (hd : a.defers = [{ target := .collected D, args := #[] }]) (hD : W.heap[D]? = some (.deferred (some [])))
    (h : ∀ W', Only D W W' → ∃ v, (results fn a.tmps).run Try.prog W' = .ok v W' ∧ R (.returned v) W') : bodyPostM Fence.wide n Try.prog fn R .ret a W := by
  show LeavesInM _ _ _ _ _ _ a.defers _ _
  rw [hd]
  have hlt : D < W.heap.size := (Array.getElem?_eq_some_iff.1 hD).1
  refine ⟨by simp, .inl ⟨D, _, rfl, run_takeDeferred hD, h _ ⟨rfl, rfl, rfl, ?_, fun k hk => World.putObj_heap_other hk⟩⟩⟩
  simp [World.putObj]
theorem ret_plain {n : Nat} {fn : Func} {R : Ending → World → Prop} {a : Act} {W : World} {v : Value} (hd : a.defers = []) (hr : (results fn a.tmps).run Try.prog W = .ok v W) (h : R (.returned v) W) : bodyPostM Fence.wide n Try.prog fn R .ret a W := by
  show LeavesInM _ _ _ _ _ _ a.defers _ _
  rw [hd]
  exact ⟨v, hr, h⟩
section
variable {l0 : List S36} {l1 : List S138} {l2 : List S112} {l3 : List S140} {l4 : List S142} {l5 : List S45} {A0 A1 A2 A3 A4 : Option Addr} {c0 c1 c2 c3 c4 : Nat} {w : World}
theorem runs_ok (h : runsV l0 l1 l2 l3 l4 l5 = 0) : Valid l0 l1 l2 l3 l4 ∧ l5.length ≤ 20 ∧ stagesE l1.length l5 0 = 0 := by
  unfold runsV at h
  by_cases h1 : checkV l0 l1 l2 l3 l4 = 0
  · rw [if_pos h1] at h
    by_cases h2 : (l5.length : Int) > 20
    · rw [if_pos h2] at h; omega
    · rw [if_neg h2] at h
      exact ⟨check_ok h1, by omega, h⟩
  · rw [if_neg h1] at h; exact absurd h h1
theorem stages_ok (hv : Valid l0 l1 l2 l3 l4) (h : stagesE l1.length l5 0 = 0) : ∀ s ∈ l5, 0 ≤ s.f0 ∧ s.f0 ≤ 2000 ∧ 0 ≤ s.f1 ∧ s.f2.length ≤ 100 := fun s hs => by
  have := stageV_ok (by have := hv.m0; omega) (stagesE_ok l5 0 h s hs)
  have := hv.m0
  omega
theorem Valid.ins (hv : Valid l0 l1 l2 l3 l4) (hr0 : Kd.C k36 w A0 l0.length l0) (hr1 : Kd.C k138 w A1 l1.length l1) (hr2 : Kd.C k112 w A2 l2.length l2) (hr3 : Kd.C k140 w A3 l3.length l3) (hr4 : Kd.C k142 w A4 l4.length l4)
    (hc0 : l0.length ≤ c0) (hc1 : l1.length ≤ c1) (hc2 : l2.length ≤ c2) (hc3 : l3.length ≤ c3) (hc4 : l4.length ≤ c4) : Ins w A0 A1 A2 A3 A4 c0 c1 c2 c3 c4 l0 l1 l2 l3 l4 :=
  ⟨hr0, hr1, hr2, hr3, hr4, hc0, hc1, hc2, hc3, hc4, hv.m0, hv.hp, fun x hx => by have := hv.pi x hx; omega, fun x hx => by have := hv.lk x hx; omega, fun x hx => by have := hv.gt x hx; omega⟩
end
def RunAs (A0 A1 A2 A3 A4 A5 : Option Addr) (c0 c1 c2 c3 c4 c5 : Nat) (l0 : List S36) (l1 : List S138) (l2 : List S112) (l3 : List S140) (l4 : List S142) (l5 : List S45) (w : World) (e : Ending) (w' : World) : Prop :=
  (runsV l0 l1 l2 l3 l4 l5 ≠ 0 ∧ e = .returned (.tuple #[.agg #[.slice none 0 0, .slice none 0 0, .slice none 0 0, .int .i64 0, .bool false], .int .i64 (runsV l0 l1 l2 l3 l4 l5)]) ∧ Below w.heap.size w w') ∨
  (runsV l0 l1 l2 l3 l4 l5 = 0 ∧ ∃ vF vB vR, ∃ S : St, S = stT l0 l1 l2 l3 l4 (allT l5) (allT l5).length ∧ e = .returned (.tuple #[.agg #[vF, vB, vR, .int .i64 S.mo, .bool S.fl], .int .i64 0]) ∧ RW w' w.heap.size vF S.F ∧ RW w' w.heap.size vB S.Bd ∧ RW w' w.heap.size vR S.Rm ∧ Dis vF vB ∧ Dis vF vR ∧ Dis vB vR ∧ Below w.heap.size w w')
set_option maxHeartbeats 8000000 in
set_option maxRecDepth 100000 in
theorem run_any (l0 : List S36) (l1 : List S138) (l2 : List S112) (l3 : List S140) (l4 : List S142) (l5 : List S45) (A0 A1 A2 A3 A4 A5 : Option Addr) (c0 c1 c2 c3 c4 c5 : Nat) (w : World)
    (hr0 : Kd.C k36 w A0 l0.length l0) (hr1 : Kd.C k138 w A1 l1.length l1) (hr2 : Kd.C k112 w A2 l2.length l2) (hr3 : Kd.C k140 w A3 l3.length l3) (hr4 : Kd.C k142 w A4 l4.length l4) (hr5 : Kd.C k45 w A5 l5.length l5)
    (hc0 : l0.length ≤ c0) (hc1 : l1.length ≤ c1) (hc2 : l2.length ≤ c2) (hc3 : l3.length ≤ c3) (hc4 : l4.length ≤ c4) (hc5 : l5.length ≤ c5) :
    Calls Try.prog 21 #[.agg #[.slice A0 l0.length c0, .slice A1 l1.length c1, .slice A2 l2.length c2, .slice A3 l3.length c3, .slice A4 l4.length c4], .slice A5 l5.length c5] w (RunAs A0 A1 A2 A3 A4 A5 c0 c1 c2 c3 c4 c5 l0 l1 l2 l3 l4 l5 w) := by
  have HR0 := Aside0.mk hr0
  have HR1 := Aside0.mk hr1
  have HR2 := Aside0.mk hr2
  have HR3 := Aside0.mk hr3
  have HR4 := Aside0.mk hr4
  have HR5 := Aside0.mk hr5
  have HC0 := Aside0.mk hc0
  have HC1 := Aside0.mk hc1
  have HC2 := Aside0.mk hc2
  have HC3 := Aside0.mk hc3
  have HC4 := Aside0.mk hc4
  have HC5 := Aside0.mk hc5
  clear hr0 hr1 hr2 hr3 hr4 hr5 hc0 hc1 hc2 hc3 hc4 hc5
  have HB := Aside0.mk (Below.refl w.heap.size w)
  refine (callsIn_wide (n := 1)).1 (callsIn_of_wp_marks Try.func21 rfl trivial (wpIn_wide.2 ?_))
  simp only [Try.ntmps21, List.size_toArray, List.length_cons, List.length_nil, Nat.reduceAdd, Nat.reduceSub, Array.replicate_succ, Array.replicate_zero, List.push_toArray, List.append_toArray, List.nil_append, List.cons_append]
  cases he : runsV l0 l1 l2 l3 l4 l5 == 0
  · have hen : (runsV l0 l1 l2 l3 l4 l5 != 0) = true := by simpa using he
    have hne : Aside0 (runsV l0 l1 l2 l3 l4 l5 ≠ 0) := ⟨by simpa using he⟩
    go_wp2_with (first | ((with_reducible refine gate_dst (N := 2) rfl ?_); go_must (refine box_ev (N := 2) (cs := #[.slice A0 l0.length c0, .slice A1 l1.length c1, .slice A2 l2.length c2, .slice A3 l3.length c3, .slice A4 l4.length c4]) (t := 29) (h := ?_); intro b2 hgb2 w1 hbox hb; have GEb2 := ge_new HB hgb2; replace HB := bel_b hb HB; have Bb2 := Aside0.mk hbox; clear hbox; obtain ⟨cb2_0, cb2_1, cb2_2, cb2_3, cb2_4⟩ := cells5 Bb2.out; (try clear hb); clear hgb2)) | ((with_reducible refine gate_dst (N := 4) rfl ?_); go_must (refine box_ev (N := 4) (cs := #[.slice none 0 0, .slice none 0 0, .slice none 0 0, .int .i64 0, .bool false]) (t := 39) (h := ?_); intro b4 hgb4 w2 hbox hb; have GEb4 := ge_new HB hgb4; have N_b2_b4 := ne_new Bb2 hgb4; replace HB := bel_b hb HB; replace Bb2 := blk_b hb Bb2; (try clear cb2_0 cb2_1 cb2_2 cb2_3 cb2_4); obtain ⟨cb2_0, cb2_1, cb2_2, cb2_3, cb2_4⟩ := cells5 Bb2.out; have Bb4 := Aside0.mk hbox; clear hbox; obtain ⟨cb4_0, cb4_1, cb4_2, cb4_3, cb4_4⟩ := cells5 Bb4.out; (try clear hb); clear hgb4)) | ((with_reducible refine gate_callee (f := 73) rfl ?_); refine goes_c (some 11) Try.func73 (runs_any l0 l1 l2 l3 l4 l5 A0 A1 A2 A3 A4 A5 c0 c1 c2 c3 c4 c5 _ (Kd.C_below HR0.out HB.out) (Kd.C_below HR1.out HB.out) (Kd.C_below HR2.out HB.out) (Kd.C_below HR3.out HB.out) (Kd.C_below HR4.out HB.out) (Kd.C_below HR5.out HB.out) HC0.out HC1.out HC2.out HC3.out HC4.out HC5.out) (h := ?_); rintro e w3 ⟨rfl, hb⟩; refine ⟨_, rfl, ?_⟩; replace HB := bel_b hb HB; replace Bb2 := blk_b hb Bb2; (try clear cb2_0 cb2_1 cb2_2 cb2_3 cb2_4); obtain ⟨cb2_0, cb2_1, cb2_2, cb2_3, cb2_4⟩ := cells5 Bb2.out; replace Bb4 := blk_b hb Bb4; (try clear cb4_0 cb4_1 cb4_2 cb4_3 cb4_4); obtain ⟨cb4_0, cb4_1, cb4_2, cb4_3, cb4_4⟩ := cells5 Bb4.out; (try clear hb); ) | ((with_reducible refine gate_store (t := 39) (p := 4) rfl ?_); go_must (refine row_ev b4 #[.slice none 0 0, .slice none 0 0, .slice none 0 0, .int .i64 0, .bool false] Bb4.out (h := ?_); intro w4 hbox ho_; replace HB := bel_o ho_ HB GEb4; replace Bb2 := blk_o ho_ Bb2 (by first | exact N_b2_b4.out | exact N_b4_b2.out.symm); (try clear cb2_0 cb2_1 cb2_2 cb2_3 cb2_4); obtain ⟨cb2_0, cb2_1, cb2_2, cb2_3, cb2_4⟩ := cells5 Bb2.out; replace Bb4 := Aside0.mk hbox; clear hbox ho_; (try clear cb4_0 cb4_1 cb4_2 cb4_3 cb4_4); obtain ⟨cb4_0, cb4_1, cb4_2, cb4_3, cb4_4⟩ := cells5 Bb4.out; )))
    refine ret_plain rfl (results_ct rfl _ _ b4 39 #[.slice none 0 0, .slice none 0 0, .slice none 0 0, .int .i64 0, .bool false] (0, 0) _ rfl (Bb4.out) Try.underlying39 rfl (by kernel_rfl)) ?_
    exact .inl ⟨hne.out, rfl, (bel_r HB)⟩
  · have hen : (runsV l0 l1 l2 l3 l4 l5 != 0) = false := by simpa using he
    have hez : Aside0 (runsV l0 l1 l2 l3 l4 l5 = 0) := ⟨by simpa using he⟩
    go_wp2_with (first | ((with_reducible refine gate_dst (N := 2) rfl ?_); go_must (refine box_ev (N := 2) (cs := #[.slice A0 l0.length c0, .slice A1 l1.length c1, .slice A2 l2.length c2, .slice A3 l3.length c3, .slice A4 l4.length c4]) (t := 29) (h := ?_); intro b2 hgb2 w1 hbox hb; have GEb2 := ge_new HB hgb2; replace HB := bel_b hb HB; have Bb2 := Aside0.mk hbox; clear hbox; obtain ⟨cb2_0, cb2_1, cb2_2, cb2_3, cb2_4⟩ := cells5 Bb2.out; (try clear hb); clear hgb2)) | ((with_reducible refine gate_dst (N := 4) rfl ?_); go_must (refine box_ev (N := 4) (cs := #[.slice none 0 0, .slice none 0 0, .slice none 0 0, .int .i64 0, .bool false]) (t := 39) (h := ?_); intro b4 hgb4 w2 hbox hb; have GEb4 := ge_new HB hgb4; have N_b2_b4 := ne_new Bb2 hgb4; replace HB := bel_b hb HB; replace Bb2 := blk_b hb Bb2; (try clear cb2_0 cb2_1 cb2_2 cb2_3 cb2_4); obtain ⟨cb2_0, cb2_1, cb2_2, cb2_3, cb2_4⟩ := cells5 Bb2.out; have Bb4 := Aside0.mk hbox; clear hbox; obtain ⟨cb4_0, cb4_1, cb4_2, cb4_3, cb4_4⟩ := cells5 Bb4.out; (try clear hb); clear hgb4)) | ((with_reducible refine gate_callee (f := 73) rfl ?_); refine goes_c (some 11) Try.func73 (runs_any l0 l1 l2 l3 l4 l5 A0 A1 A2 A3 A4 A5 c0 c1 c2 c3 c4 c5 _ (Kd.C_below HR0.out HB.out) (Kd.C_below HR1.out HB.out) (Kd.C_below HR2.out HB.out) (Kd.C_below HR3.out HB.out) (Kd.C_below HR4.out HB.out) (Kd.C_below HR5.out HB.out) HC0.out HC1.out HC2.out HC3.out HC4.out HC5.out) (h := ?_); rintro e w3 ⟨rfl, hb⟩; refine ⟨_, rfl, ?_⟩; replace HB := bel_b hb HB; replace Bb2 := blk_b hb Bb2; (try clear cb2_0 cb2_1 cb2_2 cb2_3 cb2_4); obtain ⟨cb2_0, cb2_1, cb2_2, cb2_3, cb2_4⟩ := cells5 Bb2.out; replace Bb4 := blk_b hb Bb4; (try clear cb4_0 cb4_1 cb4_2 cb4_3 cb4_4); obtain ⟨cb4_0, cb4_1, cb4_2, cb4_3, cb4_4⟩ := cells5 Bb4.out; (try clear hb); ) | ((with_reducible refine gate_dst (N := 7) rfl ?_); go_must (refine box_ev (N := 7) (cs := #[.pointer none]) (t := 114) (h := ?_); intro b7 hgb7 w4 hbox hb; have GEb7 := ge_new HB hgb7; have N_b2_b7 := ne_new Bb2 hgb7; have N_b4_b7 := ne_new Bb4 hgb7; replace HB := bel_b hb HB; replace Bb2 := blk_b hb Bb2; (try clear cb2_0 cb2_1 cb2_2 cb2_3 cb2_4); obtain ⟨cb2_0, cb2_1, cb2_2, cb2_3, cb2_4⟩ := cells5 Bb2.out; replace Bb4 := blk_b hb Bb4; (try clear cb4_0 cb4_1 cb4_2 cb4_3 cb4_4); obtain ⟨cb4_0, cb4_1, cb4_2, cb4_3, cb4_4⟩ := cells5 Bb4.out; have Bb7 := Aside0.mk hbox; clear hbox; have cb7_0 := cells1 Bb7.out; (try clear hb); clear hgb7)) | ((with_reducible refine gate_callee (f := 74) rfl ?_); have G7 : Aside0 (b7 < w4.heap.size) := ⟨blk_lt Bb7.out⟩; refine goes_c (some 18) Try.func74 (ticks_any A0 A1 A2 A3 A4 A5 c0 c1 c2 c3 c4 c5 l5.length l0 l1 l2 l3 l4 _) (h := ?_); rintro e w5 ⟨p2, p3, rfl, gp2_, gp3_, np_, hp2_, hp3_, hb⟩; refine ⟨_, rfl, ?_⟩; replace HB := bel_b hb HB; replace Bb2 := blk_b hb Bb2; (try clear cb2_0 cb2_1 cb2_2 cb2_3 cb2_4); obtain ⟨cb2_0, cb2_1, cb2_2, cb2_3, cb2_4⟩ := cells5 Bb2.out; replace Bb4 := blk_b hb Bb4; (try clear cb4_0 cb4_1 cb4_2 cb4_3 cb4_4); obtain ⟨cb4_0, cb4_1, cb4_2, cb4_3, cb4_4⟩ := cells5 Bb4.out; replace Bb7 := blk_b hb Bb7; (try clear cb7_0); have cb7_0 := cells1 Bb7.out; (try clear hb); have Bp2 := Aside0.mk hp2_; have Bp3 := Aside0.mk hp3_; clear hp2_ hp3_))
    rename_i K_ hK_
    have hbn := (np_)
    obtain ⟨hva, hm5, hse⟩ := runs_ok hez.out
    have hI := hva.ins HR0.out HR1.out HR2.out HR3.out HR4.out HC0.out HC1.out HC2.out HC3.out HC4.out
    have hst := stages_ok hva hse
    refine range_ticks (p2 := p2) (p3 := p3) (by rfl) ?_
    intro fn l D W1 rec hrec hD hDl hb1 hL hDd
    subst hrec
    have hbb := below_step (show Below w.heap.size w w5 from (bel_r HB)) hb1
    have n7l : b7 ≠ l := by have := blk_lt Bb7.out; omega
    have n7D : b7 ≠ D := by have := blk_lt Bb7.out; omega
    have h7 := blk_below (Bb7.out) hb1
    have h4 := blk_below (Bb4.out) hb1
    refine (ticks1_any (w0 := w) (w := W1) (m := 0) hI HR5.out HC5.out hm5 hst hbb (blk_below Bp2.out hb1) (blk_below Bp3.out hb1) (fun k => k = b7 ∨ k = l) ?hM
      (fun xb k W => Kept (fun k => k = b7 ∨ k = l) W1 W ∧ W.heap[l]? = W1.heap[l]? ∧ ∃ v, W.heap[b7]? = some (.cells #[v] 114 (0, 0)) ∧ (k ≠ 0 → v = .pointer (some ⟨xb, 0, none⟩))) (fun _ _ _ => False) ?hJ ?hJ0 ?hY).mono ?_
    case hM =>
      rintro k (rfl | rfl)
      · exact ⟨Nat.le_trans (Nat.le_refl _) GEb7.out, Nat.lt_of_lt_of_le (blk_lt Bb7.out) hb1.size, fun e => by have := G7.out; omega, fun e => by have := G7.out; omega⟩
      · have h5 := (show Below w.heap.size w w5 from (bel_r HB)).size
        have g2 := blk_lt Bp2.out
        have g3 := blk_lt Bp3.out
        exact ⟨by omega, blk_lt hL, by omega, by omega⟩
    case hJ =>
      rintro xb k W W' hb ⟨hkp, hl, v, hv, hvk⟩
      have g7 := Nat.lt_of_lt_of_le (blk_lt Bb7.out) hb1.size
      exact ⟨hkp.then_below hb, (hb.block l (blk_lt hL)).trans hl, v, (hb.block b7 g7).trans hv, hvk⟩
    case hJ0 => exact fun xb => ⟨Kept.refl _ _, rfl, _, h7, fun h => absurd rfl h⟩
    case hY =>
      rintro xb k W hk ⟨hkp, hl, v, hv, hvk⟩ hAt
      refine round_at (hl.trans hL) rfl rfl ?_
      intro W2 ho hL2
      have h72 := Only.blk ho hv n7l
      have c7 := (blk_cell h72 0).trans rfl
      have f7 : W2.frozen? ⟨b7, 0, none⟩ = false := by simp [World.frozen?, h72]
      gi_wp2_with (rw [Oper.semAt_eq _ _ _ (fun c h => by cases h)]; go_simp; try go_bits)
      refine ⟨trivial, ?_⟩
      gi_wp2_with (rw [Oper.semAt_eq _ _ _ (fun c h => by cases h)]; go_simp; try go_bits)
      refine end_round (Only.blk (Only.setCell _ b7 0 _) hL2 (Ne.symm n7l)) ?_
      intro W' hl' ho'
      have hk1 := Kept.only (M := fun k => k = b7 ∨ k = l) ho (.inr rfl)
      have hk2 := Kept.only (M := fun k => k = b7 ∨ k = l) (Only.setCell W2 b7 0 (.pointer (some ⟨xb, 0, none⟩))) (.inl rfl)
      have hk3 := Kept.only (M := fun k => k = b7 ∨ k = l) ho' (.inr rfl)
      have hk4 := (hk1.trans hk2).trans hk3
      exact .inl ⟨rfl, ⟨hkp.trans hk4, hl'.trans hL.symm, _, Only.blk ho' (blk_set h72 0 _) n7l, fun _ => rfl⟩, hk4⟩
    rintro e W3 ⟨⟨vv, rfl⟩, (⟨xb, ⟨hkp, hl, v, hv, hvk⟩, hAt⟩ | ⟨_, _, _, hf⟩)⟩
    · obtain rfl := hvk (Nat.succ_ne_zero _)
      have hl3 := hl.trans hL
      refine end_loop hl3 rfl rfl ?_
      intro W4 ho4
      refine hK_ _ _ ?_
      simp only [Act.put, List.setIfInBounds_toArray, List.set_cons_zero, List.set_cons_succ]
      have hw1 := hbb.size
      have hw5 := (show Below w.heap.size w w5 from (bel_r HB)).size
      have lt4 : b4 < w5.heap.size := blk_lt Bb4.out
      have hk34 : Kept (fun k => k = b7 ∨ k = l) W1 W4 := hkp.trans (Kept.only ho4 (.inr rfl))
      have hAt4 := hAt.kept (Kept.only (M := fun k => k = l) ho4 rfl) (fun k hk => ⟨by have := (show Below w.heap.size w w5 from (bel_r HB)).size; omega, by rw [hk]; exact blk_lt hL⟩)
      have h44 := hk34.blk h4 (fun h => h.elim N_b4_b7.out (by omega))
      have hD4 := hk34.blk hDd (fun h => h.elim (Ne.symm n7D) (by omega))
      have h74 := Only.blk ho4 hv n7l
      have hB4 : Below w.heap.size w W4 := hbb.trans (hk34.below (n := w.heap.size) (by rintro k (rfl | rfl); exact GEb7.out; omega) hw1)
      have ltD := blk_lt hDd
      have ne4D : b4 ≠ D := by omega
      have lt41 := blk_lt h4
      obtain ⟨fb, bb, rb, cF, cB, vR, _, g0, g1, g2, g3, hE, hS, _⟩ := hAt4
      obtain ⟨S, hSS⟩ : ∃ S, S = stT l0 l1 l2 l3 l4 (allT l5) (allT l5).length := ⟨_, rfl⟩
      rw [← hSS] at hS
      obtain ⟨hx, hF, hB, hR⟩ := hS
      obtain ⟨AR, cR, hvR, _, _⟩ := Row.slice hR
      obtain ⟨nR, hnR⟩ : ∃ n, n = S.Rm.length := ⟨_, rfl⟩
      rw [← hnR] at hvR
      subst hvR
      clear hnR
      have d1 := Dis.of_row hF hB hE.n4
      have d2 := Dis.of_row hF hR hE.n5
      have d3 := Dis.of_row hB hR hE.n6
      have N_D_b4 : Aside0 (D ≠ b4) := ⟨Ne.symm ne4D⟩
      have N_xb_b4 : Aside0 (xb ≠ b4) := ⟨by omega⟩
      have N_F_b4 : Aside0 (∀ k, Value.ownBlock (.slice (some ⟨fb, 0, none⟩) l0.length cF) = some k → k ≠ b4) := ⟨fun k hk => by have := hF.1 k hk; omega⟩
      have N_B_b4 : Aside0 (∀ k, Value.ownBlock (.slice (some ⟨bb, 0, none⟩) l0.length cB) = some k → k ≠ b4) := ⟨fun k hk => by have := hB.1 k hk; omega⟩
      have N_R_b4 : Aside0 (∀ k, Value.ownBlock (.slice AR nR cR) = some k → k ≠ b4) := ⟨fun k hk => by have := hR.1 k hk; omega⟩
      have eF : ∀ k, Value.ownBlock (.slice (some ⟨fb, 0, none⟩) l0.length cF) = some k → k ≠ D := fun k hk => by have := hF.1 k hk; omega
      have eB : ∀ k, Value.ownBlock (.slice (some ⟨bb, 0, none⟩) l0.length cB) = some k → k ≠ D := fun k hk => by have := hB.1 k hk; omega
      have eR : ∀ k, Value.ownBlock (.slice AR nR cR) = some k → k ≠ D := fun k hk => by have := hR.1 k hk; omega
      have HQ : Aside0 (Dis (.slice (some ⟨fb, 0, none⟩) l0.length cF) (.slice (some ⟨bb, 0, none⟩) l0.length cB) ∧ Dis (.slice (some ⟨fb, 0, none⟩) l0.length cF) (.slice AR nR cR) ∧ Dis (.slice (some ⟨bb, 0, none⟩) l0.length cB) (.slice AR nR cR) ∧ S = stT l0 l1 l2 l3 l4 (allT l5) (allT l5).length ∧ (∀ k, Value.ownBlock (.slice (some ⟨fb, 0, none⟩) l0.length cF) = some k → k ≠ D) ∧ (∀ k, Value.ownBlock (.slice (some ⟨bb, 0, none⟩) l0.length cB) = some k → k ≠ D) ∧ (∀ k, Value.ownBlock (.slice AR nR cR) = some k → k ≠ D) ∧ b4 ≠ D ∧ w.heap.size ≤ D) := ⟨d1, d2, d3, hSS, eF, eB, eR, ne4D, by omega⟩
      have nF : Aside0 (RW W4 w.heap.size (.slice (some ⟨fb, 0, none⟩) l0.length cF) S.F) := ⟨RW.of_row hF (by omega)⟩
      have nB : Aside0 (RW W4 w.heap.size (.slice (some ⟨bb, 0, none⟩) l0.length cB) S.Bd) := ⟨RW.of_row hB (by omega)⟩
      have nR : Aside0 (RW W4 w.heap.size (.slice AR nR cR) S.Rm) := ⟨RW.of_row hR (by omega)⟩
      clear HB Bb2 Bb4 Bb7 Bp2 Bp3 hE hI hst hse hva hm5 d1 d2 d3 eF eB eR hF hB hR hSS hAt hkp hl hl3 hbb hb1 hL hk34 hw1
      (try clear cb2_0 cb2_1 cb2_2 cb2_3 cb2_4); (try clear cb4_0 cb4_1 cb4_2 cb4_3 cb4_4); (try clear cb7_0)
      have HB := Aside0.mk hB4
      have Bb4 := Aside0.mk h44
      have Bxb := Aside0.mk hx
      have Bb7 := Aside0.mk h74
      have BD := Aside0.mk hD4
      have BF := nF
      have BB := nB
      have BR := nR
      clear hB4 h44 hx h74 hD4 nF nB nR
      obtain ⟨cb4_0, cb4_1, cb4_2, cb4_3, cb4_4⟩ := cells5 Bb4.out; obtain ⟨cxb_0, cxb_1, cxb_2, cxb_3, cxb_4, cxb_5, cxb_6, cxb_7, cxb_8, cxb_9⟩ := cells10 Bxb.out; have cb7_0 := cells1 Bb7.out
      go_wp2_with (first | ((with_reducible refine gate_store (t := 39) (p := 4) rfl ?_); go_must (refine row_ev b4 #[.slice (some ⟨fb, 0, none⟩) l0.length cF, .slice (some ⟨bb, 0, none⟩) l0.length cB, .slice AR nR cR, .int .i64 S.mo, .bool S.fl] Bb4.out (h := ?_); intro w6 hbox ho_; replace HB := bel_o ho_ HB GEb4; replace Bxb := blk_o ho_ Bxb (by first | exact N_xb_b4.out | exact N_b4_xb.out.symm); (try clear cxb_0 cxb_1 cxb_2 cxb_3 cxb_4 cxb_5 cxb_6 cxb_7 cxb_8 cxb_9); obtain ⟨cxb_0, cxb_1, cxb_2, cxb_3, cxb_4, cxb_5, cxb_6, cxb_7, cxb_8, cxb_9⟩ := cells10 Bxb.out; replace Bb7 := blk_o ho_ Bb7 (by first | exact N_b7_b4.out | exact N_b4_b7.out.symm); (try clear cb7_0); have cb7_0 := cells1 Bb7.out; replace BD := blk_o ho_ BD (by first | exact N_D_b4.out | exact N_b4_D.out.symm); replace BF := rw_o ho_ BF (by first | exact N_F_b4.out | exact N_b4_F.out.symm); replace BB := rw_o ho_ BB (by first | exact N_B_b4.out | exact N_b4_B.out.symm); replace BR := rw_o ho_ BR (by first | exact N_R_b4.out | exact N_b4_R.out.symm); replace Bb4 := Aside0.mk hbox; clear hbox ho_; (try clear cb4_0 cb4_1 cb4_2 cb4_3 cb4_4); obtain ⟨cb4_0, cb4_1, cb4_2, cb4_3, cb4_4⟩ := cells5 Bb4.out; )))
      obtain ⟨q1, q2, q3, q4, q5, q6, q7, q8, q9⟩ := HQ.out
      refine ret_marked (D := D) rfl BD.out ?_
      intro W' hoD
      refine ⟨_, results_ct rfl _ _ b4 39 #[.slice (some ⟨fb, 0, none⟩) l0.length cF, .slice (some ⟨bb, 0, none⟩) l0.length cB, .slice AR nR cR, .int .i64 S.mo, .bool S.fl] (0, 0) _ rfl (Only.blk hoD Bb4.out q8) Try.underlying39 rfl (by kernel_rfl), ?_⟩
      exact .inr ⟨hez.out, _, _, _, S, q4, rfl, RW.only BF.out hoD q5, RW.only BB.out hoD q6, RW.only BR.out hoD q7, q1, q2, q3, hoD.below HB.out q9⟩
    · exact hf.elim
end Go.Proofs.Ytkhnhkjihhhbbaa.P

namespace Go.Proofs.Ytkhnhkjihhhbbaa.P
open Go.RowKit Go.Proofs.YtkhnhkjihhhbbaaW.PrintWords Go.Proofs.YtkhnhkjihhhbbaaW.PrintLast Go.Proofs.YtkhnhkjihhhbbaaW.PrintMore
set_option linter.unusedVariables false
set_option linter.unusedSimpArgs false
def pump_Run.f (l0 : List S36) (l1 : List S138) (l2 : List S112) (l3 : List S140) (l4 : List S142) (l5 : List S45) : Option (List S32 × List S32 × List S32 × Int × Bool × Int) :=
  if runsV l0 l1 l2 l3 l4 l5 = 0 then some ((stT l0 l1 l2 l3 l4 (allT l5) (allT l5).length).F, (stT l0 l1 l2 l3 l4 (allT l5) (allT l5).length).Bd, (stT l0 l1 l2 l3 l4 (allT l5) (allT l5).length).Rm, (stT l0 l1 l2 l3 l4 (allT l5) (allT l5).length).mo, (stT l0 l1 l2 l3 l4 (allT l5) (allT l5).length).fl, 0)
  else some ([], [], [], 0, false, runsV l0 l1 l2 l3 l4 l5)
theorem pump_Run.calls (A0 : Option Addr) (c0 : Nat) (l0 : List S36) (A1 : Option Addr) (c1 : Nat) (l1 : List S138) (A2 : Option Addr) (c2 : Nat) (l2 : List S112) (A3 : Option Addr) (c3 : Nat) (l3 : List S140) (A4 : Option Addr) (c4 : Nat) (l4 : List S142) (A5 : Option Addr) (c5 : Nat) (l5 : List S45) (r1 r2 r3 : List S32) (r4 : Int) (r5 : Bool) (r6 : Int) (w : World)
    (hr0 : Kd.C k36 w A0 l0.length l0) (hc0 : l0.length ≤ c0) (hr1 : Kd.C k138 w A1 l1.length l1) (hc1 : l1.length ≤ c1) (hr2 : Kd.C k112 w A2 l2.length l2) (hc2 : l2.length ≤ c2) (hr3 : Kd.C k140 w A3 l3.length l3) (hc3 : l3.length ≤ c3) (hr4 : Kd.C k142 w A4 l4.length l4) (hc4 : l4.length ≤ c4) (hr5 : Kd.C k45 w A5 l5.length l5) (hc5 : l5.length ≤ c5)
    (h : pump_Run.f l0 l1 l2 l3 l4 l5 = some (r1, r2, r3, r4, r5, r6)) :
    Calls Try.prog 21 #[.agg #[.slice A0 l0.length c0, .slice A1 l1.length c1, .slice A2 l2.length c2, .slice A3 l3.length c3, .slice A4 l4.length c4], .slice A5 l5.length c5] w fun e w' => ∃ v0_ v1_ v2_ : Value, e = .returned (.tuple #[.agg #[v0_, v1_, v2_, .int .i64 r4, .bool r5], .int .i64 r6]) ∧
      Kd.R k32 32 w' w.heap.size (fun _ => True) v0_ r1 ∧ Kd.R k32 32 w' w.heap.size (fun _ => True) v1_ r2 ∧ Kd.R k32 32 w' w.heap.size (fun _ => True) v2_ r3 ∧ Below w.heap.size w w' := by
  refine (run_any l0 l1 l2 l3 l4 l5 A0 A1 A2 A3 A4 A5 c0 c1 c2 c3 c4 c5 w hr0 hr1 hr2 hr3 hr4 hr5 hc0 hc1 hc2 hc3 hc4 hc5).mono ?_
  unfold pump_Run.f at h
  rintro e w' (⟨hne, rfl, hb⟩ | ⟨he, vF, vB, vR, S, hS, rfl, hF, hB, hR, d1, d2, d3, hb⟩)
  · rw [if_neg hne] at h
    simp only [Option.some.injEq, Prod.mk.injEq] at h
    obtain ⟨rfl, rfl, rfl, rfl, rfl, rfl⟩ := h
    exact ⟨_, _, _, rfl, Kd.R_nil _ _ _ _ _, Kd.R_nil _ _ _ _ _, Kd.R_nil _ _ _ _ _, hb⟩
  · rw [if_pos he, ← hS] at h
    simp only [Option.some.injEq, Prod.mk.injEq] at h
    obtain ⟨rfl, rfl, rfl, rfl, rfl, rfl⟩ := h
    exact ⟨_, _, _, rfl, hF, hB, hR, hb⟩
def pump_Worst.f (n : Int) (TT : List S62) (l : List Int) : Option (Int × Int × Int) := some (worstV n TT l)
theorem pump_Worst.calls (n : Int) (A1 : Option Addr) (c1 : Nat) (TT : List S62) (A2 : Option Addr) (c2 : Nat) (l : List Int) (r1 r2 r3 : Int) (w : World) (hr : Kd.C k62 w A1 TT.length TT) (hc : TT.length ≤ c1) (hr2 : Kd.C (Kd.int .i64) w A2 l.length l) (hc2 : l.length ≤ c2) (h : pump_Worst.f n TT l = some (r1, r2, r3)) :
    Calls Try.prog 26 #[.agg #[.int .i64 n, .slice A1 TT.length c1], .slice A2 l.length c2] w fun e w' => e = .returned (.tuple #[.int .i64 r1, .int .i64 r2, .int .i64 r3]) ∧ Below w.heap.size w w' := by
  have h2 : worstV n TT l = (r1, r2, r3) := Option.some.inj h
  refine (worst_any n A1 c1 TT A2 c2 l w hr hc hr2 hc2).mono fun e w' h3 => ?_
  rw [h2] at h3
  exact h3
theorem C_b {α : Type} {d : Kd α} {A : Option Addr} {n : Nat} {xs : List α} {W W' w2 : World} (hb : Below W'.heap.size W' w2) (h : Aside0 (Kd.C d W A n xs)) (h1 : W'.os = W.os := by exact rfl) (h2 : W'.tape = W.tape := by exact rfl) (h3 : W'.output = W.output := by exact rfl) (h4 : W'.heap = W.heap := by exact rfl) : Aside0 (Kd.C d w2 A n xs) := ⟨Kd.C_below h.out (below_step (bel_r ⟨Below.refl _ _⟩ h1 h2 h3 h4) hb)⟩
theorem slice_event {P : Program} {ops : Array Oper} {rest : List Oper} {o : Oper} {a : Act} {Q : Exit → Act → World → Prop} {W : World} (hgd : o.guard = none) {N : Tmp} (_hd : o.dst = some N) {cs : Array Value} {t : TypeId} {n : Nat}
    (hrun : (execOp a.eval o).run P W = .ok (.value (.slice (some ⟨W.heap.size, 0, none⟩) n n)) (W.alloc (.cells cs t (0, 0))))
    (h : ∀ g, g = W.heap.size → ∀ w1, w1.heap[g]? = some (.cells cs t (0, 0)) → Below W.heap.size W w1 → wpList P ops Q rest (a.put o.dst (.slice (some ⟨g, 0, none⟩) n n)) w1) : wpList P ops Q (o :: rest) a W :=
  Kd.event_run hgd hrun (h _ rfl _ (blk_new W _) (below_alloc (Below.refl _ _) _))
theorem bake_reads {w : World} {g : Nat} (hc : w.heap[g]? = some (.cells #[.int .i64 3, .int .i64 0, .slice none 0 0, .bool false] 45 (0, 0))) : Kd.C k45 w (some ⟨g, 0, none⟩) ([⟨3, 0, [], false⟩] : List S45).length [⟨3, 0, [], false⟩] := by
  refine ⟨rfl, by decide, fun _ => ⟨_, rfl, fun j p hj => ?_⟩⟩
  match j, hj with
  | 0, hj =>
    simp at hj
    subst hj
    refine ⟨_, rfl, k45_mk w ⟨3, 0, [], false⟩ (A2 := none) (c2 := 0) (by decide) (Kd.C_nil _ _), fun i u hu => ?_⟩
    match i, hu with
    | 0, hu => simp at hu; subst hu; exact blk_cell hc 0
    | 1, hu => simp at hu; subst hu; exact blk_cell hc 1
    | 2, hu => simp at hu; subst hu; exact blk_cell hc 2
    | 3, hu => simp at hu; subst hu; exact blk_cell hc 3
    | i + 4, hu => simp at hu
theorem four_reads {w : World} {g : Nat} (hc : w.heap[g]? = some (.cells #[.int .i64 0, .int .i64 1, .int .i64 2, .int .i64 3] 3 (0, 0))) : Kd.C (Kd.int .i64) w (some ⟨g, 0, none⟩) ([0, 1, 2, 3] : List Int).length [0, 1, 2, 3] := by
  refine ⟨rfl, by decide, fun _ => ⟨_, rfl, fun j p hj => ?_⟩⟩
  have one : ∀ (j : Nat) (p : Int), w.cell? ⟨g, j, none⟩ = some (.int .i64 p) → ∃ c, c.length = (Kd.int .i64).sz ∧ (Kd.int .i64).K w p c ∧ ∀ i u, c[i]? = some u → w.cell? ((⟨g, 0, none⟩ : Addr).add (j * (Kd.int .i64).sz + i)) = some u := fun j p h => by
    refine ⟨[.int .i64 p], rfl, rfl, fun i u hu => ?_⟩
    match i, hu with
    | 0, hu =>
      simp at hu
      subst hu
      have e : ((⟨g, 0, none⟩ : Addr).add (j * (Kd.int .i64).sz + 0)) = ⟨g, j, none⟩ := by
        have : (Kd.int .i64).sz = 1 := rfl
        rw [this]; simp [Addr.add]; exact fun h => h.symm
      rw [e]; exact h
    | i + 1, hu => simp at hu
  match j, hj with
  | 0, hj => simp at hj; subst hj; exact one 0 0 (blk_cell hc 0)
  | 1, hj => simp at hj; subst hj; exact one 1 1 (blk_cell hc 1)
  | 2, hj => simp at hj; subst hj; exact one 2 2 (blk_cell hc 2)
  | 3, hj => simp at hj; subst hj; exact one 3 3 (blk_cell hc 3)
  | j + 4, hj => simp at hj
def rowT : List S62 := [⟨[0], 1⟩, ⟨[0, 1], 1⟩, ⟨[0, 1, 2], 1⟩]
theorem row_f : thermionlaw06_row.f = some (4, rowT) := by unfold thermionlaw06_row.f rowT; rfl
set_option maxRecDepth 100000 in
theorem row_worst : worstV 4 rowT [0, 1, 2, 3] = (2, 1, 0) := by decide +kernel
theorem half_f : thermionlaw06_half.f = some ([⟨10, ⟨1000, 1000⟩, ⟨0, 0⟩, []⟩], [], [⟨0, ⟨500000, 500000⟩⟩], [], []) := by unfold thermionlaw06_half.f thermionlaw06_one.f thermionlaw06_of.f; rfl
set_option maxRecDepth 100000 in
theorem half_run : pump_Run.f [⟨10, ⟨1000, 1000⟩, ⟨0, 0⟩, []⟩] [] [⟨0, ⟨500000, 500000⟩⟩] [] [] [⟨3, 0, [], false⟩] = some ([⟨125, 125⟩], [⟨0, 0⟩], [], 1000, false, 0) := by kernel_rfl
theorem pump_Worst.eq (n : Int) (TT : List S62) (l : List Int) : pump_Worst.f n TT l = some (worstV n TT l) := rfl
attribute [irreducible] pump_Run.f pump_Worst.f
end Go.Proofs.Ytkhnhkjihhhbbaa.P

namespace Go.Proofs.Ytkhnhkjihhhbbaa.P
open Go.RowKit Go.Proofs.YtkhnhkjihhhbbaaW.PrintWords Go.Proofs.YtkhnhkjihhhbbaaW.PrintLast Go.Proofs.YtkhnhkjihhhbbaaW.PrintMore
set_option linter.unusedVariables false
set_option linter.unusedSimpArgs false
set_option maxHeartbeats 8000000 in
set_option maxRecDepth 100000 in
theorem awake_any (w : World) : Calls Try.prog 23 #[] w fun e w' => e = .returned (.bool true) ∧ Below w.heap.size w w' := by
  obtain ⟨l0, l1, l2, l3, l4, hhf, hrun⟩ : ∃ l0 l1 l2 l3 l4, thermionlaw06_half.f = some (l0, l1, l2, l3, l4) ∧ pump_Run.f l0 l1 l2 l3 l4 [⟨3, 0, [], false⟩] = some ([⟨125, 125⟩], [⟨0, 0⟩], [], 1000, false, 0) := ⟨_, _, _, _, _, half_f, half_run⟩
  obtain ⟨F, Bd, Rm, mo, fl, hFE, hru⟩ : ∃ F Bd Rm mo fl, F = [⟨125, 125⟩] ∧ pump_Run.f l0 l1 l2 l3 l4 [⟨3, 0, [], false⟩] = some (F, Bd, Rm, mo, fl, 0) := ⟨_, _, _, _, _, rfl, hrun⟩
  obtain ⟨TT, hrw, hwo⟩ : ∃ TT, thermionlaw06_row.f = some (4, TT) ∧ pump_Worst.f 4 TT [0, 1, 2, 3] = some (2, 1, 0) := ⟨rowT, row_f, (pump_Worst.eq _ _ _).trans (congrArg some row_worst)⟩
  have HHF := Aside0.mk hhf
  have HFE := Aside0.mk hFE
  have HRU := Aside0.mk hru
  have HRW := Aside0.mk hrw
  have HWO := Aside0.mk hwo
  clear hhf hrun hFE hru hrw hwo
  have HB := Aside0.mk (Below.refl w.heap.size w)
  go_enter Try.func23, Try.ntmps23
  go_upto_region 2 with (first | ((with_reducible refine gate_callee (f := 19) rfl ?_); go_must (refine goesL_ (some 7) rfl rfl Try.func19 (by kernel_rfl) rfl #[] rfl (by (try simp only [List.map_toArray, List.map_nil]); first | done | rfl) ?_; refine (thermionlaw06_half.calls l0 l1 l2 l3 l4 _ HHF.out).mono ?_; rintro e w1 ⟨v0, v1, v2, v3, v4, rfl, h0, h1, h2, h3, h4, hb⟩; refine ⟨_, rfl, ?_⟩; obtain ⟨A0, c0, rfl, j0, r0⟩ := Kd.S_reads h0; obtain ⟨A1, c1, rfl, j1, r1⟩ := Kd.R_reads h1; obtain ⟨A2, c2, rfl, j2, r2⟩ := Kd.R_reads h2; obtain ⟨A3, c3, rfl, j3, r3⟩ := Kd.R_reads h3; obtain ⟨A4, c4, rfl, j4, r4⟩ := Kd.R_reads h4; have Bc0 := Aside0.mk r0; have HC0 := Aside0.mk j0; have Bc1 := Aside0.mk r1; have HC1 := Aside0.mk j1; have Bc2 := Aside0.mk r2; have HC2 := Aside0.mk j2; have Bc3 := Aside0.mk r3; have HC3 := Aside0.mk j3; have Bc4 := Aside0.mk r4; have HC4 := Aside0.mk j4; clear r0 r1 r2 r3 r4 j0 j1 j2 j3 j4 h0 h1 h2 h3 h4; replace HB := bel_b hb HB; (try clear hb); skip)) | ((with_reducible refine gate_dst (N := 9) rfl ?_); go_must (refine slice_event ?hg (N := 9) ?hd (cs := #[.int .i64 3, .int .i64 0, .slice none 0 0, .bool false]) (t := 45) (n := 1) ?hr ?_; (case hd => rfl); (case hg => rfl); (case hr => first | (go_simp; done) | (go_simp; rfl)); intro g5 hg5 w2 hbox hb; have nr := bake_reads hbox; clear hbox; replace HB := bel_b hb HB; replace Bc0 := C_b hb Bc0; replace Bc1 := C_b hb Bc1; replace Bc2 := C_b hb Bc2; replace Bc3 := C_b hb Bc3; replace Bc4 := C_b hb Bc4; (try clear hb); have Bc5 := Aside0.mk nr; clear nr hg5)) | ((with_reducible refine gate_callee (f := 21) rfl ?_); go_must (refine goesL_ (some 10) rfl rfl Try.func21 (by kernel_rfl) rfl #[.agg #[.slice A0 l0.length c0, .slice A1 l1.length c1, .slice A2 l2.length c2, .slice A3 l3.length c3, .slice A4 l4.length c4], .slice (some ⟨g5, 0, none⟩) 1 1] rfl (by (try simp only [List.map_toArray, List.map_cons, List.map_nil]); first | done | rfl) ?_; refine (pump_Run.calls A0 c0 l0 A1 c1 l1 A2 c2 l2 A3 c3 l3 A4 c4 l4 (some ⟨g5, 0, none⟩) 1 [⟨3, 0, [], false⟩] F Bd Rm mo fl 0 _ (Bc0.out) HC0.out (Bc1.out) HC1.out (Bc2.out) HC2.out (Bc3.out) HC3.out (Bc4.out) HC4.out (Bc5.out) (by decide) HRU.out).mono ?_; rintro e w3 ⟨v1, v2, v3, rfl, h1, h2, h3, hb⟩; refine ⟨_, rfl, ?_⟩; obtain ⟨B1, d1, rfl⟩ := Kd.R_slice h1; obtain ⟨B2, d2, rfl⟩ := Kd.R_slice h2; obtain ⟨B3, d3, rfl⟩ := Kd.R_slice h3; have BF : Aside0 (RW w3 w.heap.size (.slice B1 F.length d1) F) := ⟨Kd.R_lower h1 (show Below w.heap.size w _ from (bel_r HB)).size⟩; clear h1 h2 h3; clear Bc0 Bc1 Bc2 Bc3 Bc4 Bc5 HC0 HC1 HC2 HC3 HC4; replace HB := bel_b hb HB; (try clear hb); skip)) | ((with_reducible refine gate_dst (N := 1) rfl ?_); go_must (refine box_ev (N := 1) (cs := #[.slice none 0 0, .slice none 0 0, .slice none 0 0, .int .i64 0, .bool false]) (t := 39) (h := ?_); intro b1 hgb1 w4 hbox hb; have GEb1 := ge_new HB hgb1; have N_F_b1 := rw_new BF hgb1; replace HB := bel_b hb HB; replace BF := rw_b hb BF; have Bb1 := Aside0.mk hbox; clear hbox; obtain ⟨cb1_0, cb1_1, cb1_2, cb1_3, cb1_4⟩ := cells5 Bb1.out; (try clear hb); clear hgb1)) | ((with_reducible refine gate_store (t := 39) (p := 1) rfl ?_); go_must (refine row_ev b1 #[.slice B1 F.length d1, .slice B2 Bd.length d2, .slice B3 Rm.length d3, .int .i64 mo, .bool fl] Bb1.out (h := ?_); intro w5 hbox ho_; replace HB := bel_o ho_ HB GEb1; replace BF := rw_o ho_ BF (by first | exact N_F_b1.out | exact N_b1_F.out.symm); replace Bb1 := Aside0.mk hbox; clear hbox ho_; (try clear cb1_0 cb1_1 cb1_2 cb1_3 cb1_4); obtain ⟨cb1_0, cb1_1, cb1_2, cb1_3, cb1_4⟩ := cells5 Bb1.out; )))
  go_upto_region 3 with (first | ((with_reducible refine gate_callee (f := 75) rfl ?_); go_must (refine goesL_ (some 14) rfl rfl Try.func75 (by kernel_rfl) rfl #[] rfl (by (try simp only [List.map_toArray, List.map_nil]); first | done | rfl) ?_; refine (thermionlaw06_row.calls 4 TT _ HRW.out).mono ?_; rintro e w6 ⟨v1, rfl, h1, hb⟩; refine ⟨_, rfl, ?_⟩; obtain ⟨AT, cT, rfl, jT, rT⟩ := Kd.N_reads h1; replace HB := bel_b hb HB; replace Bb1 := blk_b hb Bb1; (try clear cb1_0 cb1_1 cb1_2 cb1_3 cb1_4); obtain ⟨cb1_0, cb1_1, cb1_2, cb1_3, cb1_4⟩ := cells5 Bb1.out; replace BF := rw_b hb BF; (try clear hb); have Bct := Aside0.mk rT; have HTC := Aside0.mk jT; clear rT jT h1)) | ((with_reducible refine gate_dst (N := 15) rfl ?_); go_must (refine slice_event ?hg (N := 15) ?hd (cs := #[.int .i64 0, .int .i64 1, .int .i64 2, .int .i64 3]) (t := 3) (n := 4) ?hr ?_; (case hd => rfl); (case hg => rfl); (case hr => first | (go_simp; done) | (go_simp; rfl)); intro g6 hg6 w7 hbox hb; have nr := four_reads hbox; clear hbox; replace HB := bel_b hb HB; replace Bb1 := blk_b hb Bb1; (try clear cb1_0 cb1_1 cb1_2 cb1_3 cb1_4); obtain ⟨cb1_0, cb1_1, cb1_2, cb1_3, cb1_4⟩ := cells5 Bb1.out; replace BF := rw_b hb BF; replace Bct := C_b hb Bct; (try clear hb); have Bcl := Aside0.mk nr; clear nr hg6)) | ((with_reducible refine gate_callee (f := 26) rfl ?_); go_must (refine goes_c (some 16) Try.func26 (pump_Worst.calls 4 AT cT TT (some ⟨g6, 0, none⟩) 4 [0, 1, 2, 3] 2 1 0 _ (Bct.out) HTC.out (Bcl.out) (by decide) HWO.out) (h := ?_); rintro e w8 ⟨rfl, hb⟩; refine ⟨_, rfl, ?_⟩; replace HB := bel_b hb HB; replace Bb1 := blk_b hb Bb1; (try clear cb1_0 cb1_1 cb1_2 cb1_3 cb1_4); obtain ⟨cb1_0, cb1_1, cb1_2, cb1_3, cb1_4⟩ := cells5 Bb1.out; replace BF := rw_b hb BF; (try clear hb); )))
  refine region_ri (n := 22) (B := [0, 1, 3, 7, 15, 31, 63, 127, 255, 127, 639, 2047, 4095, 8191, 16383, 32767, 65535, 131071, 262143, 524287, 1048575, 2097151]) (fun o_ => match o_ with | 0 => some 20 | 1 => some 21 | 2 => some 22 | 3 => some 23 | 4 => some 24 | 5 => some 25 | 6 => some 26 | 7 => some 27 | 8 => some 28 | 9 => some 29 | 10 => some 30 | 11 => some 31 | 12 => some 32 | 13 => some 33 | 14 => some 34 | 15 => some 35 | 16 => some 36 | 17 => some 37 | 18 => some 38 | 19 => some 39 | 20 => some 40 | 21 => some 0 | _ => none) (fun o_ q_ w' => match o_ with | 0 => q_ = .int .i64 0 | 1 => q_ = .bool true | 2 => q_ = .bool true | 3 => q_ = .int .i64 0 | 4 => q_ = .bool true | 5 => q_ = .bool true | 6 => q_ = .bool true | 7 => q_ = .pointer (some ⟨b1, 0, none⟩) | 8 => q_ = .slice B1 F.length d1 | 9 => q_ = .agg #[.int .i64 125, .int .i64 125] | 10 => (∃ g_, q_ = .slice (some ⟨g_, 0, none⟩) 1 1 ∧ w'.heap[g_]? = some (.cells #[.int .i64 125, .int .i64 125] 32 (0, 0))) | 11 => q_ = .bool true | 12 => q_ = .bool true | 13 => q_ = .bool true | 14 => q_ = .int .i64 2 | 15 => q_ = .bool true | 16 => q_ = .bool true | 17 => q_ = .bool true | 18 => q_ = .int .i64 1 | 19 => q_ = .bool true | 20 => q_ = .bool true | 21 => q_ = .bool true | _ => True) (fun b w' => Aside0 (Below w.heap.size w w') ∧ Aside0 (w'.heap[b1]? = some (.cells #[.slice B1 F.length d1, .slice B2 Bd.length d2, .slice B3 Rm.length d3, .int .i64 mo, .bool fl] 39 (0, 0))) ∧ Aside0 (RW w' w.heap.size (.slice B1 F.length d1) F)) rfl rfl (by kernel_rfl) (by kernel_rfl) (by kernel_rfl) ⟨⟨below_drew ((bel_r HB))⟩, ⟨blk_below (Bb1.out) (below_drew (Below.refl _ _))⟩, ⟨Kd.R_below ((R_r BF)) (below_drew (Below.refl _ _))⟩⟩ ?_ ?_
  · intro o_ hi
    match o_, hi with
    | 0, _ =>
      intro b a wq hI hbi_ hb_ hoff_
      have e2 : a.eval (.tmp 2) = .int .i64 0 := hI.old 2 (by decide) rfl
      have s2 := sv_ e2
      have hJ := hI.j
      obtain ⟨HBq, qb1, qF⟩ := hJ
      obtain ⟨cb1_0, cb1_1, cb1_2, cb1_3, cb1_4⟩ := cells5 qb1.out
      exact op_keep hI (i := 0) ⟨HBq, qb1, qF⟩ (hrun := gs_)
    | 1, _ =>
      intro b a wq hI hbi_ hb_ hoff_
      have e20 := hI.new 20 0 (by decide) (hb_ 0 (by decide)) rfl fun _ h => h
      have s20 := sv_ e20
      have hJ := hI.j
      obtain ⟨HBq, qb1, qF⟩ := hJ
      obtain ⟨cb1_0, cb1_1, cb1_2, cb1_3, cb1_4⟩ := cells5 qb1.out
      exact op_keep hI (i := 1) ⟨HBq, qb1, qF⟩ (hrun := gs_)
    | 2, _ =>
      intro b a wq hI hbi_ hb_ hoff_
      have e21 := hI.new 21 1 (by decide) (hb_ 1 (by decide)) rfl fun _ h => h
      have s21 := sv_ e21
      have hJ := hI.j
      obtain ⟨HBq, qb1, qF⟩ := hJ
      obtain ⟨cb1_0, cb1_1, cb1_2, cb1_3, cb1_4⟩ := cells5 qb1.out
      exact op_keep hI (i := 2) ⟨HBq, qb1, qF⟩ (hrun := gs_)
    | 3, _ =>
      intro b a wq hI hbi_ hb_ hoff_
      have e5 : a.eval (.tmp 5) = .int .i64 0 := hI.old 5 (by decide) rfl
      have s5 := sv_ e5
      obtain ⟨vg_, hg_, hgT_⟩ := hI.t 2 22 (by decide) (hb_ 2 (by decide)) rfl
      have hgT2_ : vg_ = .bool true := hgT_
      rw [hgT2_] at hg_
      clear hgT2_ hgT_
      have hJ := hI.j
      obtain ⟨HBq, qb1, qF⟩ := hJ
      obtain ⟨cb1_0, cb1_1, cb1_2, cb1_3, cb1_4⟩ := cells5 qb1.out
      refine ⟨_, rfl, rfl, fun K hK => ?_⟩
      refine value_ (N := some 23) (wanted_on rfl rfl rfl hg_) rfl (v := .int .i64 0) (w1 := wq) ?_ (hK _ _ ⟨HBq, qb1, qF⟩ (fun _ _ h => h) rfl)
      first | (go_simp; done) | (go_simp; rfl)
    | 4, _ =>
      intro b a wq hI hbi_ hb_ hoff_
      have e23 := hI.new 23 3 (by decide) (hb_ 3 (by decide)) rfl fun _ h => h
      have s23 := sv_ e23
      obtain ⟨vg_, hg_, hgT_⟩ := hI.t 2 22 (by decide) (hb_ 2 (by decide)) rfl
      have hgT2_ : vg_ = .bool true := hgT_
      rw [hgT2_] at hg_
      clear hgT2_ hgT_
      have hJ := hI.j
      obtain ⟨HBq, qb1, qF⟩ := hJ
      obtain ⟨cb1_0, cb1_1, cb1_2, cb1_3, cb1_4⟩ := cells5 qb1.out
      refine ⟨_, rfl, rfl, fun K hK => ?_⟩
      refine value_ (N := some 24) (wanted_on rfl rfl rfl hg_) rfl (v := .bool true) (w1 := wq) ?_ (hK _ _ ⟨HBq, qb1, qF⟩ (fun _ _ h => h) rfl)
      first | (go_simp; done) | (go_simp; rfl)
    | 5, _ =>
      intro b a wq hI hbi_ hb_ hoff_
      have e22 := hI.new 22 2 (by decide) (hb_ 2 (by decide)) rfl fun _ h => h
      have s22 := sv_ e22
      have e24 := hI.new 24 4 (by decide) (hb_ 4 (by decide)) rfl fun _ h => h
      have s24 := sv_ e24
      have hJ := hI.j
      obtain ⟨HBq, qb1, qF⟩ := hJ
      obtain ⟨cb1_0, cb1_1, cb1_2, cb1_3, cb1_4⟩ := cells5 qb1.out
      exact op_keep hI (i := 5) ⟨HBq, qb1, qF⟩ (hrun := gs_)
    | 6, _ =>
      intro b a wq hI hbi_ hb_ hoff_
      have e25 := hI.new 25 5 (by decide) (hb_ 5 (by decide)) rfl fun _ h => h
      have s25 := sv_ e25
      have hJ := hI.j
      obtain ⟨HBq, qb1, qF⟩ := hJ
      obtain ⟨cb1_0, cb1_1, cb1_2, cb1_3, cb1_4⟩ := cells5 qb1.out
      exact op_keep hI (i := 6) ⟨HBq, qb1, qF⟩ (hrun := gs_)
    | 7, _ =>
      intro b a wq hI hbi_ hb_ hoff_
      have e1 : a.eval (.tmp 1) = .pointer (some ⟨b1, 0, none⟩) := hI.old 1 (by decide) rfl
      have s1 := sv_ e1
      obtain ⟨vg_, hg_, hgT_⟩ := hI.t 6 26 (by decide) (hb_ 6 (by decide)) rfl
      have hgT2_ : vg_ = .bool true := hgT_
      rw [hgT2_] at hg_
      clear hgT2_ hgT_
      have hJ := hI.j
      obtain ⟨HBq, qb1, qF⟩ := hJ
      obtain ⟨cb1_0, cb1_1, cb1_2, cb1_3, cb1_4⟩ := cells5 qb1.out
      refine ⟨_, rfl, rfl, fun K hK => ?_⟩
      refine value_ (N := some 27) (wanted_on rfl rfl rfl hg_) rfl (v := .pointer (some ⟨b1, 0, none⟩)) (w1 := wq) ?_ (hK _ _ ⟨HBq, qb1, qF⟩ (fun _ _ h => h) rfl)
      first | (go_simp; done) | (go_simp; rfl)
    | 8, _ =>
      intro b a wq hI hbi_ hb_ hoff_
      have e27 := hI.new 27 7 (by decide) (hb_ 7 (by decide)) rfl fun _ h => h
      have s27 := sv_ e27
      obtain ⟨vg_, hg_, hgT_⟩ := hI.t 6 26 (by decide) (hb_ 6 (by decide)) rfl
      have hgT2_ : vg_ = .bool true := hgT_
      rw [hgT2_] at hg_
      clear hgT2_ hgT_
      have hJ := hI.j
      obtain ⟨HBq, qb1, qF⟩ := hJ
      obtain ⟨cb1_0, cb1_1, cb1_2, cb1_3, cb1_4⟩ := cells5 qb1.out
      refine ⟨_, rfl, rfl, fun K hK => ?_⟩
      refine value_ (N := some 28) (wanted_on rfl rfl rfl hg_) rfl (v := .slice B1 F.length d1) (w1 := wq) ?_ (hK _ _ ⟨HBq, qb1, qF⟩ (fun _ _ h => h) rfl)
      first | (go_simp; done) | (go_simp; rfl)
    | 9, _ =>
      intro b a wq hI hbi_ hb_ hoff_
      obtain ⟨vg_, hg_, hgT_⟩ := hI.t 6 26 (by decide) (hb_ 6 (by decide)) rfl
      have hgT2_ : vg_ = .bool true := hgT_
      rw [hgT2_] at hg_
      clear hgT2_ hgT_
      have hJ := hI.j
      obtain ⟨HBq, qb1, qF⟩ := hJ
      obtain ⟨cb1_0, cb1_1, cb1_2, cb1_3, cb1_4⟩ := cells5 qb1.out
      refine ⟨_, rfl, rfl, fun K hK => ?_⟩
      refine goes_ Try.func20 (by kernel_rfl) rfl #[.int .i64 125] (wanted_on rfl rfl rfl hg_) rfl rfl (by simp [Act.eval]) ?_
      refine (thermionlaw06_one.calls 125 125 125 wq (by unfold thermionlaw06_one.f thermionlaw06_of.f; rfl)).mono ?_
      rintro e w2 ⟨rfl, hb2⟩
      exact ⟨_, rfl, hK _ _ ⟨⟨below_step HBq.out hb2⟩, ⟨blk_below qb1.out hb2⟩, ⟨Kd.R_below qF.out hb2⟩⟩ (fun k u hk => by revert hk; match k with | 0 => exact id | 1 => exact id | 2 => exact id | 3 => exact id | 4 => exact id | 5 => exact id | 6 => exact id | 7 => exact id | 8 => exact id | 9 => exact id | 10 => exact (fun ⟨g_, h1_, h2_⟩ => ⟨g_, h1_, blk_below h2_ hb2⟩) | 11 => exact id | 12 => exact id | 13 => exact id | 14 => exact id | 15 => exact id | 16 => exact id | 17 => exact id | 18 => exact id | 19 => exact id | 20 => exact id | 21 => exact id | k + 22 => exact id) rfl⟩
    | 10, _ =>
      intro b a wq hI hbi_ hb_ hoff_
      have e29 := hI.new 29 9 (by decide) (hb_ 9 (by decide)) rfl fun _ h => h
      have s29 := sv_ e29
      obtain ⟨vg_, hg_, hgT_⟩ := hI.t 6 26 (by decide) (hb_ 6 (by decide)) rfl
      have hgT2_ : vg_ = .bool true := hgT_
      rw [hgT2_] at hg_
      clear hgT2_ hgT_
      have hJ := hI.j
      obtain ⟨HBq, qb1, qF⟩ := hJ
      obtain ⟨cb1_0, cb1_1, cb1_2, cb1_3, cb1_4⟩ := cells5 qb1.out
      refine ⟨_, rfl, rfl, fun K hK => ?_⟩
      refine value_ (N := some 30) (wanted_on rfl rfl rfl hg_) rfl (v := .slice (some ⟨wq.heap.size, 0, none⟩) 1 1) (w1 := wq.alloc (.cells #[.int .i64 125, .int .i64 125] 32)) gs_ (hK _ _ ⟨⟨below_step HBq.out (below_alloc (Below.refl _ _) _)⟩, ⟨blk_below qb1.out (below_alloc (Below.refl _ _) _)⟩, ⟨Kd.R_below qF.out (below_alloc (Below.refl _ _) _)⟩⟩ (fun k u hk => by revert hk; match k with | 0 => exact id | 1 => exact id | 2 => exact id | 3 => exact id | 4 => exact id | 5 => exact id | 6 => exact id | 7 => exact id | 8 => exact id | 9 => exact id | 10 => exact (fun ⟨g_, h1_, h2_⟩ => ⟨g_, h1_, blk_below h2_ (below_alloc (Below.refl _ _) _)⟩) | 11 => exact id | 12 => exact id | 13 => exact id | 14 => exact id | 15 => exact id | 16 => exact id | 17 => exact id | 18 => exact id | 19 => exact id | 20 => exact id | 21 => exact id | k + 22 => exact id) ⟨_, rfl, heap_alloc_new wq _⟩)
    | 11, _ =>
      intro b a wq hI hbi_ hb_ hoff_
      have e28 := hI.new 28 8 (by decide) (hb_ 8 (by decide)) rfl fun _ h => h
      have s28 := sv_ e28
      obtain ⟨vg_, hg_, hgT_⟩ := hI.t 6 26 (by decide) (hb_ 6 (by decide)) rfl
      have hgT2_ : vg_ = .bool true := hgT_
      rw [hgT2_] at hg_
      clear hgT2_ hgT_
      obtain ⟨y30, hy30, hT30⟩ := hI.t 10 30 (by decide) (hb_ 10 (by decide)) rfl
      have e30 := eval_of hy30
      obtain ⟨g_, rfl, hg30⟩ := hT30
      have hJ := hI.j
      obtain ⟨HBq, qb1, qF⟩ := hJ
      obtain ⟨cb1_0, cb1_1, cb1_2, cb1_3, cb1_4⟩ := cells5 qb1.out
      refine ⟨_, rfl, rfl, fun K hK => ?_⟩
      refine goes_ Try.func76 (by kernel_rfl) rfl #[.slice B1 F.length d1, .slice (some ⟨g_, 0, none⟩) 1 1] (wanted_on rfl rfl rfl hg_) rfl rfl (by simp [e28, e30]) ?_
      refine (thermionkit_SameRanges.calls 3 B1 d1 F (some ⟨g_, 0, none⟩) 1 [⟨125, 125⟩] true wq (Kd.R_reads' qF.out).2.2 (Kd.R_reads' qF.out).2.1 (reads_one hg30) (by decide) (by rw [HFE.out]; kernel_rfl)).mono ?_
      rintro e w2 ⟨rfl, hd2⟩
      have hb2 := Drawn0.below hd2
      exact ⟨_, rfl, hK _ _ ⟨⟨below_step HBq.out hb2⟩, ⟨blk_below qb1.out hb2⟩, ⟨Kd.R_below qF.out hb2⟩⟩ (fun k u hk => by revert hk; match k with | 0 => exact id | 1 => exact id | 2 => exact id | 3 => exact id | 4 => exact id | 5 => exact id | 6 => exact id | 7 => exact id | 8 => exact id | 9 => exact id | 10 => exact (fun ⟨g_, h1_, h2_⟩ => ⟨g_, h1_, blk_below h2_ hb2⟩) | 11 => exact id | 12 => exact id | 13 => exact id | 14 => exact id | 15 => exact id | 16 => exact id | 17 => exact id | 18 => exact id | 19 => exact id | 20 => exact id | 21 => exact id | k + 22 => exact id) rfl⟩
    | 12, _ =>
      intro b a wq hI hbi_ hb_ hoff_
      have e26 := hI.new 26 6 (by decide) (hb_ 6 (by decide)) rfl fun _ h => h
      have s26 := sv_ e26
      have e31 := hI.new 31 11 (by decide) (hb_ 11 (by decide)) rfl fun _ h => h
      have s31 := sv_ e31
      have hJ := hI.j
      obtain ⟨HBq, qb1, qF⟩ := hJ
      obtain ⟨cb1_0, cb1_1, cb1_2, cb1_3, cb1_4⟩ := cells5 qb1.out
      exact op_keep hI (i := 12) ⟨HBq, qb1, qF⟩ (hrun := gs_)
    | 13, _ =>
      intro b a wq hI hbi_ hb_ hoff_
      have e32 := hI.new 32 12 (by decide) (hb_ 12 (by decide)) rfl fun _ h => h
      have s32 := sv_ e32
      have hJ := hI.j
      obtain ⟨HBq, qb1, qF⟩ := hJ
      obtain ⟨cb1_0, cb1_1, cb1_2, cb1_3, cb1_4⟩ := cells5 qb1.out
      exact op_keep hI (i := 13) ⟨HBq, qb1, qF⟩ (hrun := gs_)
    | 14, _ =>
      intro b a wq hI hbi_ hb_ hoff_
      have e3 : a.eval (.tmp 3) = .int .i64 2 := hI.old 3 (by decide) rfl
      have s3 := sv_ e3
      obtain ⟨vg_, hg_, hgT_⟩ := hI.t 13 33 (by decide) (hb_ 13 (by decide)) rfl
      have hgT2_ : vg_ = .bool true := hgT_
      rw [hgT2_] at hg_
      clear hgT2_ hgT_
      have hJ := hI.j
      obtain ⟨HBq, qb1, qF⟩ := hJ
      obtain ⟨cb1_0, cb1_1, cb1_2, cb1_3, cb1_4⟩ := cells5 qb1.out
      refine ⟨_, rfl, rfl, fun K hK => ?_⟩
      refine value_ (N := some 34) (wanted_on rfl rfl rfl hg_) rfl (v := .int .i64 2) (w1 := wq) ?_ (hK _ _ ⟨HBq, qb1, qF⟩ (fun _ _ h => h) rfl)
      first | (go_simp; done) | (go_simp; rfl)
    | 15, _ =>
      intro b a wq hI hbi_ hb_ hoff_
      have e34 := hI.new 34 14 (by decide) (hb_ 14 (by decide)) rfl fun _ h => h
      have s34 := sv_ e34
      obtain ⟨vg_, hg_, hgT_⟩ := hI.t 13 33 (by decide) (hb_ 13 (by decide)) rfl
      have hgT2_ : vg_ = .bool true := hgT_
      rw [hgT2_] at hg_
      clear hgT2_ hgT_
      have hJ := hI.j
      obtain ⟨HBq, qb1, qF⟩ := hJ
      obtain ⟨cb1_0, cb1_1, cb1_2, cb1_3, cb1_4⟩ := cells5 qb1.out
      refine ⟨_, rfl, rfl, fun K hK => ?_⟩
      refine value_ (N := some 35) (wanted_on rfl rfl rfl hg_) rfl (v := .bool true) (w1 := wq) ?_ (hK _ _ ⟨HBq, qb1, qF⟩ (fun _ _ h => h) rfl)
      first | (go_simp; done) | (go_simp; rfl)
    | 16, _ =>
      intro b a wq hI hbi_ hb_ hoff_
      have e33 := hI.new 33 13 (by decide) (hb_ 13 (by decide)) rfl fun _ h => h
      have s33 := sv_ e33
      have e35 := hI.new 35 15 (by decide) (hb_ 15 (by decide)) rfl fun _ h => h
      have s35 := sv_ e35
      have hJ := hI.j
      obtain ⟨HBq, qb1, qF⟩ := hJ
      obtain ⟨cb1_0, cb1_1, cb1_2, cb1_3, cb1_4⟩ := cells5 qb1.out
      exact op_keep hI (i := 16) ⟨HBq, qb1, qF⟩ (hrun := gs_)
    | 17, _ =>
      intro b a wq hI hbi_ hb_ hoff_
      have e36 := hI.new 36 16 (by decide) (hb_ 16 (by decide)) rfl fun _ h => h
      have s36 := sv_ e36
      have hJ := hI.j
      obtain ⟨HBq, qb1, qF⟩ := hJ
      obtain ⟨cb1_0, cb1_1, cb1_2, cb1_3, cb1_4⟩ := cells5 qb1.out
      exact op_keep hI (i := 17) ⟨HBq, qb1, qF⟩ (hrun := gs_)
    | 18, _ =>
      intro b a wq hI hbi_ hb_ hoff_
      have e4 : a.eval (.tmp 4) = .int .i64 1 := hI.old 4 (by decide) rfl
      have s4 := sv_ e4
      obtain ⟨vg_, hg_, hgT_⟩ := hI.t 17 37 (by decide) (hb_ 17 (by decide)) rfl
      have hgT2_ : vg_ = .bool true := hgT_
      rw [hgT2_] at hg_
      clear hgT2_ hgT_
      have hJ := hI.j
      obtain ⟨HBq, qb1, qF⟩ := hJ
      obtain ⟨cb1_0, cb1_1, cb1_2, cb1_3, cb1_4⟩ := cells5 qb1.out
      refine ⟨_, rfl, rfl, fun K hK => ?_⟩
      refine value_ (N := some 38) (wanted_on rfl rfl rfl hg_) rfl (v := .int .i64 1) (w1 := wq) ?_ (hK _ _ ⟨HBq, qb1, qF⟩ (fun _ _ h => h) rfl)
      first | (go_simp; done) | (go_simp; rfl)
    | 19, _ =>
      intro b a wq hI hbi_ hb_ hoff_
      have e38 := hI.new 38 18 (by decide) (hb_ 18 (by decide)) rfl fun _ h => h
      have s38 := sv_ e38
      obtain ⟨vg_, hg_, hgT_⟩ := hI.t 17 37 (by decide) (hb_ 17 (by decide)) rfl
      have hgT2_ : vg_ = .bool true := hgT_
      rw [hgT2_] at hg_
      clear hgT2_ hgT_
      have hJ := hI.j
      obtain ⟨HBq, qb1, qF⟩ := hJ
      obtain ⟨cb1_0, cb1_1, cb1_2, cb1_3, cb1_4⟩ := cells5 qb1.out
      refine ⟨_, rfl, rfl, fun K hK => ?_⟩
      refine value_ (N := some 39) (wanted_on rfl rfl rfl hg_) rfl (v := .bool true) (w1 := wq) ?_ (hK _ _ ⟨HBq, qb1, qF⟩ (fun _ _ h => h) rfl)
      first | (go_simp; done) | (go_simp; rfl)
    | 20, _ =>
      intro b a wq hI hbi_ hb_ hoff_
      have e37 := hI.new 37 17 (by decide) (hb_ 17 (by decide)) rfl fun _ h => h
      have s37 := sv_ e37
      have e39 := hI.new 39 19 (by decide) (hb_ 19 (by decide)) rfl fun _ h => h
      have s39 := sv_ e39
      have hJ := hI.j
      obtain ⟨HBq, qb1, qF⟩ := hJ
      obtain ⟨cb1_0, cb1_1, cb1_2, cb1_3, cb1_4⟩ := cells5 qb1.out
      exact op_keep hI (i := 20) ⟨HBq, qb1, qF⟩ (hrun := gs_)
    | 21, _ =>
      intro b a wq hI hbi_ hb_ hoff_
      have e40 := hI.new 40 20 (by decide) (hb_ 20 (by decide)) rfl fun _ h => h
      have s40 := sv_ e40
      have hJ := hI.j
      obtain ⟨HBq, qb1, qF⟩ := hJ
      obtain ⟨cb1_0, cb1_1, cb1_2, cb1_3, cb1_4⟩ := cells5 qb1.out
      exact op_keep hI (i := 21) ⟨HBq, qb1, qF⟩ (hrun := gs_)
    | o_ + 22, hi => exact absurd hi (by omega)
  intro vs wn b_ hall hJ hT
  obtain ⟨HJ0, HT0⟩ : Aside0 _ ∧ Aside0 _ := ⟨⟨hJ⟩, ⟨hT⟩⟩
  clear hall hJ hT
  have t0_ := HT0.out 0 (by decide) (by decide)
  have t1_ := HT0.out 1 (by decide) (by decide)
  have t2_ := HT0.out 2 (by decide) (by decide)
  have t3_ := HT0.out 3 (by decide) (by decide)
  have t4_ := HT0.out 4 (by decide) (by decide)
  have t5_ := HT0.out 5 (by decide) (by decide)
  have t6_ := HT0.out 6 (by decide) (by decide)
  have t7_ := HT0.out 7 (by decide) (by decide)
  have t8_ := HT0.out 8 (by decide) (by decide)
  have t9_ := HT0.out 9 (by decide) (by decide)
  have t11_ := HT0.out 11 (by decide) (by decide)
  have t12_ := HT0.out 12 (by decide) (by decide)
  have t13_ := HT0.out 13 (by decide) (by decide)
  have t14_ := HT0.out 14 (by decide) (by decide)
  have t15_ := HT0.out 15 (by decide) (by decide)
  have t16_ := HT0.out 16 (by decide) (by decide)
  have t17_ := HT0.out 17 (by decide) (by decide)
  have t18_ := HT0.out 18 (by decide) (by decide)
  have t19_ := HT0.out 19 (by decide) (by decide)
  have t20_ := HT0.out 20 (by decide) (by decide)
  have t21_ := HT0.out 21 (by decide) (by decide)
  obtain ⟨u10_, t10_⟩ : ∃ u, vs 10 = u := ⟨_, rfl⟩
  simp only [fillAll, show List.range 22 = [0, 1, 2, 3, 4, 5, 6, 7, 8, 9, 10, 11, 12, 13, 14, 15, 16, 17, 18, 19, 20, 21] from rfl]
  rw [(show vs 0 = _ from t0_), (show vs 1 = _ from t1_), (show vs 2 = _ from t2_), (show vs 3 = _ from t3_), (show vs 4 = _ from t4_), (show vs 5 = _ from t5_), (show vs 6 = _ from t6_), (show vs 7 = _ from t7_), (show vs 8 = _ from t8_), (show vs 9 = _ from t9_), t10_, (show vs 11 = _ from t11_), (show vs 12 = _ from t12_), (show vs 13 = _ from t13_), (show vs 14 = _ from t14_), (show vs 15 = _ from t15_), (show vs 16 = _ from t16_), (show vs 17 = _ from t17_), (show vs 18 = _ from t18_), (show vs 19 = _ from t19_), (show vs 20 = _ from t20_), (show vs 21 = _ from t21_)]
  clear t0_ t1_ t2_ t3_ t4_ t5_ t6_ t7_ t8_ t9_ t10_ t11_ t12_ t13_ t14_ t15_ t16_ t17_ t18_ t19_ t20_ t21_
  simp only [Act.put, List.setIfInBounds_toArray, List.set_cons_zero, List.set_cons_succ]
  clear HB Bb1 BF
  obtain ⟨HB, Bb1, BF⟩ := HJ0.out
  clear HJ0 HT0
  go_wp2
  go_ret
  exact ⟨rfl, (bel_r HB)⟩
def thermionlaw06_awake.f : Option Bool := some true
theorem thermionlaw06_awake.calls (r : Bool) (w : World) (h : thermionlaw06_awake.f = some r) : Calls Try.prog 23 #[] w fun e w' => e = .returned (.bool r) ∧ Below w.heap.size w w' := by
  obtain rfl : true = r := Option.some.inj h
  exact awake_any w
theorem thermionlaw06_awake.eq : thermionlaw06_awake.f = some true := rfl
attribute [irreducible] thermionlaw06_awake.f
end Go.Proofs.Ytkhnhkjihhhbbaa.P

namespace Go.Proofs.Ytkhnhkjihhhbbaa.P
open Go.RowKit Go.Proofs.YtkhnhkjihhhbbaaW.PrintWords Go.Proofs.YtkhnhkjihhhbbaaW.PrintLast Go.Proofs.YtkhnhkjihhhbbaaW.PrintMore
attribute [local go_sem] max2_int min2_int max_two min_two
set_option linter.unusedVariables false
set_option linter.unusedSimpArgs false
mutual
def thermionlaw06_PumpRows.l0 : Nat → Int → Int → Int → List (S62) → Option (Bool)
  | 0, _, _, _, _ => none
  | k + 1, x0, x4, x281000, x281001 => if x4 < x0 then ((thermionkit_First.f k x4).bind fun t281 => (if x281001.length < 4398046511104 then (thermionlaw06_PumpRows.l0 k x0 (wrap64 (x4 + 1)) x281000 (x281001 ++ [(⟨t281, 1⟩ : S62)])) else (none))) else (thermionlaw06_PumpRows.l1 k x0 0 x281000 x281001)
def thermionlaw06_PumpRows.l1 : Nat → Int → Int → Int → List (S62) → Option (Bool)
  | 0, _, _, _, _ => none
  | k + 1, x0, x5, x281000, x281001 => if 0 ≤ x5 then (if (shl .i64 1 x5) < x0 then (thermionlaw06_PumpRows.l1 k x0 (wrap64 (x5 + 1)) x281000 x281001) else ((thermionkit_First.f k x0).bind fun t287 => ((pump_Worst.f x281000 x281001 t287).bind fun bt290 => (if bt290.2.2 = 0 then (if bt290.1 = x5 then ((thermionlaw06_awake.f).bind fun t293 => (some t293)) else (some false)) else (some false))))) else (none)
end
def thermionlaw06_PumpRows.f (k : Nat) (a0 : Int) : Option (Bool) := (thermionkit_Mod.f a0 12).bind fun t279 => (thermionlaw06_PumpRows.l0 k (wrap64 (1 + t279)) 1 (wrap64 (1 + t279)) ([] : List (S62)))
def thermionlaw06_PumpRows.T6 : Bool × List (List Nat × List Nat) := (true, [([], []), ([0], [0]), ([], []), ([2], [2]), ([3], [3]), ([4], [4]), ([1, 5, 3], [1, 5]), ([0, 1, 2, 3, 4, 5, 6], []), ([7, 6, 6, 0, 1, 2, 3, 4, 5, 6], [6, 7])])
def thermionlaw06_PumpRows.B6 : List Nat := [0, 1, 0, 4, 12, 28, 63, 127, 255]
theorem thermionlaw06_PumpRows.tab6 : rtab .any (opsOf Try.f5 6) = thermionlaw06_PumpRows.T6 := by kernel_rfl
theorem thermionlaw06_PumpRows.bits6 : waitsOk thermionlaw06_PumpRows.T6.2 thermionlaw06_PumpRows.B6 = true := by kernel_rfl
def thermionlaw06_PumpRows.T10 : Bool × List (List Nat × List Nat) := (true, [([], []), ([], []), ([1], [1]), ([0, 2, 2], [0, 2]), ([3], [3]), ([4], [4]), ([4], [4]), ([4], [4]), ([5, 3, 0, 1, 2, 3, 4, 5], [5]), ([6, 8, 0, 1, 2, 3, 4, 5, 6, 8], [6]), ([7, 9, 0, 1, 2, 3, 4, 5, 6, 7, 8, 9], [7])])
def thermionlaw06_PumpRows.B10 : List Nat := [0, 0, 2, 7, 15, 31, 31, 31, 63, 383, 1023]
theorem thermionlaw06_PumpRows.tab10 : rtab .any (opsOf Try.f5 10) = thermionlaw06_PumpRows.T10 := by kernel_rfl
theorem thermionlaw06_PumpRows.bits10 : waitsOk thermionlaw06_PumpRows.T10.2 thermionlaw06_PumpRows.B10 = true := by kernel_rfl
set_option maxHeartbeats 8000000 in
set_option maxRecDepth 100000 in
theorem thermionlaw06_PumpRows.calls (k : Nat) (a0 : Int) (r : Bool) (w : World) (h : thermionlaw06_PumpRows.f k a0 = some r) :
    Calls Try.prog 5 #[.int .i64 a0] w fun e w' => e = .returned (.bool r) ∧ Below w.heap.size w w' := by
  have hu52 := Try.underlying52
  have hu62 := Try.underlying62
  have HB := Aside0.mk (Below.refl w.heap.size w)
  have H : ((thermionkit_Mod.f a0 12).bind fun t279 => (thermionlaw06_PumpRows.l0 k (wrap64 (1 + t279)) 1 (wrap64 (1 + t279)) ([] : List (S62)))) = some r := h
  clear h
  replace H := Option.bind_eq_some_iff.mp H
  obtain ⟨t279, A20, H⟩ := H
  replace H : (thermionlaw06_PumpRows.l0 k (wrap64 (1 + t279)) 1 (wrap64 (1 + t279)) ([] : List (S62))) = some r := H
  have A2 := Aside0.mk A20
  clear A20
  have H' := Aside0.mk H
  clear H
  go_enter Try.func5, Try.ntmps5
  go_wp2_with (first | ((with_reducible refine gate_callee (f := 18) rfl ?_); refine goesL_ (some 10) rfl rfl Try.func18 (by kernel_rfl) rfl #[.int .i64 a0, .int .i64 12] rfl (by (try simp only [List.map_toArray, List.map_cons, List.map_nil]); first | done | rfl | (simp only [List.length_drop, List.length_take]; rfl)) ?_; (with_reducible refine (thermionkit_Mod.calls a0 12 t279 _ A2.out).mono ?_); rintro e w' ⟨rfl, ⟨nd, rfl⟩⟩; refine ⟨_, rfl, ?_⟩) | ((with_reducible refine gate_dst (N := 3) rfl ?_); refine box_event ?hg (N := 3) ?hd (cs := #[.int .i64 0, .slice none 0 0]) (t := 52) ?hr ?_; (case hd => rfl); (case hg => rfl); (case hr => first | (go_simp; done) | (go_simp; rfl)); intro gb280 hg w3 hbox hb; have n0_ := Aside0.mk (below_step (by repeat (first | (with_reducible first | exact HB.out | apply below_alloc | apply pw_below_drewN | apply below_drew1) | exact HB.out)) hb); have n1_ := Aside0.mk (hbox); have n2_ := Aside0.mk ((by rw [hg]; exact (below_size (by repeat (first | (with_reducible first | exact HB.out | apply below_alloc | apply pw_below_drewN | apply below_drew1) | exact HB.out))) : w.heap.size ≤ gb280)); have n3_ := Aside0.mk ((by rw [hg]; exact (below_size (by repeat (first | (with_reducible first | exact HB.out | apply below_alloc | apply pw_below_drewN | apply below_drew1) | exact HB.out))) : w.heap.size ≤ gb280)); clear HB; have HB := n0_; have BK280 := n1_; have GW280 := n2_; have GE280 := n3_; clear n0_ n1_ n2_ n3_; clear hb hbox hg; have hcz4_0 : w3.cell? ⟨gb280, 0, none⟩ = some (.int .i64 0) := (blk_cell BK280.out 0).trans rfl; have hcz4_1 : w3.cell? ⟨gb280, 1, none⟩ = some (.slice none 0 0) := (blk_cell BK280.out 1).trans rfl; have hfz4_0 := blk_frozen BK280.out 0; have hfz4_1 := blk_frozen BK280.out 1))
  go_loopg [4] k (fun kq v4 w' => ∃ (x4_1 : Int) (x281001_1 : List (S62)) (u281001 : Value), v4 = .int .i64 x4_1 ∧ Aside0 (thermionlaw06_PumpRows.l0 kq (wrap64 (1 + t279)) x4_1 (wrap64 (1 + t279)) x281001_1 = some r) ∧ Aside0 (kq ≤ k) ∧ Aside0 (Kd.S k62 62 w' w.heap.size (fun _ => True) u281001 x281001_1) ∧ Aside0 (w'.heap[gb280]? = some (.cells #[.int .i64 (wrap64 (1 + t279)), u281001] 52 (0, 0))) ∧ Aside0 (Below w.heap.size w w'))
  case atStart => exact ⟨(1), (([] : List (S62))), (.slice none 0 0), (by first | rfl | (simp; done) | (simp [*]; done)), H', ⟨Nat.le_refl _⟩, ⟨by first | exact Kd.S_nil _ _ _ _ _ | exact Kd.N_nil _ _ _ _ _ | exact Kd.V_nil _ _ _ _ _ | exact Kd.Q_nil _ _ _ _ _ | exact Kd.R_nil _ _ _ _ _⟩, ⟨by (with_reducible repeat (first | refine blk_drewN ?_ _ | refine blk_drew ?_ | refine blk_alloc ?_ _)); refine blk_put (cs := #[.int .i64 (wrap64 (1 + t279)), .slice none 0 0]) ?_ 1 _ rfl; (with_reducible repeat (first | refine blk_drewN ?_ _ | refine blk_drew ?_ | refine blk_alloc ?_ _)); refine blk_put (cs := #[.int .i64 0, .slice none 0 0]) ?_ 0 _ rfl; (with_reducible repeat (first | refine blk_drewN ?_ _ | refine blk_drew ?_ | refine blk_alloc ?_ _)); exact BK280.out⟩, ⟨by repeat (first | (with_reducible first | exact HB.out | apply below_alloc | apply pw_below_drewN | apply below_drew1 | refine below_set ?_ GE280.out) | exact HB.out)⟩⟩
  case round =>
    clear H'
    try clear c1
    try clear p2
    try clear hcz4_0
    try clear hcz4_1
    try clear hfz4_0
    try clear hfz4_1
    obtain ⟨x4_1, x281001_1, u281001, rfl, HA, HK1, HO_281001, BK280, HB⟩ := hrel
    cases gk with
    | zero => exact absurd HA.out (by simp [thermionlaw06_PumpRows.l0])
    | succ k1 =>
      have H := HA.out
      clear HA
      simp only [thermionlaw06_PumpRows.l0] at H
      by_cases c5 : x4_1 < (wrap64 (1 + t279))
      · rw [if_pos c5] at H
        have c5b0 : decide (x4_1 < (wrap64 (1 + t279))) = true := decide_eq_true c5
        clear c5
        replace H := Option.bind_eq_some_iff.mp H
        obtain ⟨t281, A60, H⟩ := H
        replace H : (if x281001_1.length < 4398046511104 then (thermionlaw06_PumpRows.l0 k1 (wrap64 (1 + t279)) (wrap64 (x4_1 + 1)) (wrap64 (1 + t279)) (x281001_1 ++ [(⟨t281, 1⟩ : S62)])) else (none)) = some r := H
        have A6 := Aside0.mk A60
        clear A60
        by_cases c7 : x281001_1.length < 4398046511104
        · rw [if_pos c7] at H
          have LMc7 := Aside0.mk c7
          clear c7
          obtain ⟨y284, hy284⟩ : ∃ y_ : List (S62), y_ = (x281001_1 ++ [(⟨t281, 1⟩ : S62)]) := ⟨_, rfl⟩
          replace H : (thermionlaw06_PumpRows.l0 k1 (wrap64 (1 + t279)) (wrap64 (x4_1 + 1)) (wrap64 (1 + t279)) y284) = some r := by first | (rw [hy284]; with_reducible exact H) | (have H2_ := (Option.bind_some _ _).symm.trans H; rw [hy284]; with_reducible exact H2_) | (have H2_ := (Option.bind_some _ _).symm.trans H; with_reducible exact H2_) | with_reducible exact H | (rw [hy284]; exact H) | exact H
          have Ny284 := Aside0.mk hy284
          clear hy284
          have H' := Aside0.mk H
          clear H
          try go_wp2
          have n0_ := Aside0.mk (Kd.S_drew HO_281001.out)
          have n1_ := Aside0.mk (blk_drew BK280.out)
          have n2_ := Aside0.mk (below_drew1 HB.out)
          clear HO_281001
          clear BK280
          clear HB
          have HO_281001 := n0_
          have BK280 := n1_
          have HB := n2_
          clear n0_ n1_ n2_
          refine start_ (n := 9) (S := fun w' => w'.cell? ⟨gb280, 0, none⟩ = some (.int .i64 (wrap64 (1 + t279))) ∧ w'.cell? ⟨gb280, 1, none⟩ = some (u281001)) (ds := [8]) #[false, false, false, false, false, false, false, false, false] (by kernel_rfl) rfl rfl ⟨(blk_cell BK280.out 0).trans rfl, (blk_cell BK280.out 1).trans rfl⟩ (fun hHeld => ?_); refine with_tabW thermionlaw06_PumpRows.tab6 thermionlaw06_PumpRows.bits6 (fun HT_ HW_ => ?_)
          generalize wr.drew = w8 at HO_281001 BK280 HB hHeld ⊢
          refine pure_ (i := 0) (N := some 19) (v := ?_) (a' := ?_) #[true, false, false, false, false, false, false, false, false] rfl rfl (any_of HT_.out (by kernel_rfl)) (fun _ _ _ h => h) (Or.inl ⟨by rfl, ?_⟩) ?_ ?_
          rotate_left
          · intro w'
            go_simp
            with_reducible rfl
          rotate_left
          · simp only [Act.put, List.setIfInBounds_toArray, List.set_cons_zero, List.set_cons_succ, i64_w, i32_w]
            rfl
          refine pure_ (i := 2) (N := some 21) (v := ?_) (a' := ?_) #[true, false, true, false, false, false, false, false, false] rfl rfl (any_of HT_.out (by kernel_rfl)) (fun _ _ _ h => h) (Or.inl ⟨by rfl, ?_⟩) ?_ ?_
          rotate_left
          · intro w'
            go_simp
            with_reducible rfl
          rotate_left
          · simp only [Act.put, List.setIfInBounds_toArray, List.set_cons_zero, List.set_cons_succ, i64_w, i32_w]
            rfl
          refine take_ (i := 1) (N := some 20) (v := ?_) (a' := ?_) #[true, true, true, false, false, false, false, false, false] rfl rfl (take_ofW HT_.out HW_.out (by kernel_rfl)) (fun _ _ _ h => h) (Or.inl ⟨by rfl, ?_⟩) hHeld ?_ ?_
          rotate_left
          · rintro w' ⟨s0, s1⟩
            go_simp
            with_reducible rfl
          rotate_left
          · simp only [Act.put, List.setIfInBounds_toArray, List.set_cons_zero, List.set_cons_succ, i64_w, i32_w]
            rfl
          refine one_ (i := 3) (N := some 22) #[true, true, true, true, false, false, false, false, false] rfl rfl (one_of HT_.out (by kernel_rfl)) (by decide) (fun K hK => ?_)
          refine goes_ Try.func27 (by kernel_rfl) rfl #[.int .i64 x4_1] (by rfl) rfl rfl (by (try simp only [List.map_toArray, List.map_cons, List.map_nil]); first | done | rfl | (simp only [List.length_drop, List.length_take]; rfl)) ?_
          with_reducible refine (thermionkit_First.calls k1 x4_1 t281 _ A6.out).mono ?_
          rintro e w9 ⟨v282, rfl, ho0, hb⟩
          refine ⟨_, rfl, ?_⟩
          have n0_ := Aside0.mk (Kd.S_elder' (by (with_reducible repeat (first | apply Kd.S_alloc | apply Kd.S_drewN | apply Kd.S_drew)); exact HO_281001.out) (Kd.R_base ho0) hb)
          have n1_ := Aside0.mk (Kd.R_lower ho0 (below_size (by repeat (first | (with_reducible first | exact HB.out | apply below_alloc | apply pw_below_drewN | apply below_drew1 | refine below_set ?_ GE280.out) | exact HB.out))))
          have n2_ := Aside0.mk (blk_below (g := gb280) (o := .cells #[.int .i64 (wrap64 (1 + t279)), u281001] 52 (0, 0)) (by (with_reducible repeat (first | refine blk_drewN ?_ _ | refine blk_drew ?_ | refine blk_alloc ?_ _)); exact BK280.out) hb)
          have n3_ := Aside0.mk (below_step (by repeat (first | (with_reducible first | exact HB.out | apply below_alloc | apply pw_below_drewN | apply below_drew1 | refine below_set ?_ GE280.out) | exact HB.out)) hb)
          clear HO_281001
          clear BK280
          clear HB
          have HO_281001 := n0_
          have HO283 := n1_
          have BK280 := n2_
          have HB := n3_
          clear n0_ n1_ n2_ n3_
          (try clear hb)
          (try clear hb2)
          (try clear hk)
          (try clear hi)
          (try clear ho0)
          obtain ⟨Ao10, co10, eo10⟩ := Kd.R_slice HO283.out
          (first | subst eo10 | (injection eo10 with f1_ f2_ f3_; have f4_ := f1_.symm; have f5_ := f3_.symm; clear f1_ f2_ f3_; subst f4_; subst f5_))
          refine hK.out _ _ ⟨(blk_cell BK280.out 0).trans rfl, (blk_cell BK280.out 1).trans rfl⟩ (fun hHeld => ?_)
          clear hK K
          refine norm_ (a' := ?_) ?_ ?_
          rotate_left
          · show Act.put _ (some 22) _ = _
            simp only [Act.put, List.setIfInBounds_toArray, List.set_cons_zero, List.set_cons_succ, i64_w, i32_w]
            rfl
          refine pure_ (i := 4) (N := some 23) (v := ?_) (a' := ?_) #[true, true, true, true, true, false, false, false, false] rfl rfl (any_of HT_.out (by kernel_rfl)) (fun _ _ _ h => h) (Or.inl ⟨by rfl, ?_⟩) ?_ ?_
          rotate_left
          · intro w'
            go_simp
            with_reducible rfl
          rotate_left
          · simp only [Act.put, List.setIfInBounds_toArray, List.set_cons_zero, List.set_cons_succ, i64_w, i32_w]
            rfl
          refine one_ (i := 5) (N := some 24) #[true, true, true, true, true, true, false, false, false] rfl rfl (one_of HT_.out (by kernel_rfl)) (by decide) (fun K hK => ?_)
          refine value_ (w1 := ?_) (v := ?_) (by rfl) rfl ?_ ?_
          rotate_left 2
          · go_simp
            constructor
            · rfl
            · rfl
          refine hK.out _ _ ⟨(blk_cell (blk_alloc BK280.out _) 0).trans rfl, (blk_cell (blk_alloc BK280.out _) 1).trans rfl⟩ (fun hHeld => ?_)
          clear hK K
          refine norm_ (a' := ?_) ?_ ?_
          rotate_left
          · show Act.put _ (some 24) _ = _
            simp only [Act.put, List.setIfInBounds_toArray, List.set_cons_zero, List.set_cons_succ, i64_w, i32_w]
            rfl
          refine one_ (i := 6) (N := some 25) #[true, true, true, true, true, true, true, false, false] rfl rfl (one_of HT_.out (by kernel_rfl)) (by decide) (fun K hK => ?_)
          refine Kd.S_append_step k62 (w0 := w) w.heap.size (by rfl) (.tmp 20) (.tmp 24) 50 62 (.agg #[(.slice none 0 0), (.int .i64 0)]) 32 rfl Try.underlying50 info62 rfl (by decide) (by omega) u281001 x281001_1 (⟨t281, 1⟩ : S62) [.slice Ao10 t281.length co10, .int .i64 1] (fun _ => True) (fun k_ => some k_ = (.slice Ao10 t281.length co10 : Value).ownBlock) rfl rfl ?aP (fun k_ hk_ => ((Kd.R_mono (ok' := fun k_ => ((fun _ => True)) k_ ∧ some k_ ≠ (u281001 : Value).ownBlock) (Kd.R_apart' (HO283.out) (Kd.S_typed HO_281001.out) (by decide)) (fun k_ hk => ⟨trivial, hk.2⟩))).1 k_ hk_.symm) ?aF ?aO ?aB ?aS ?aL ?_
          (case aP => exact k62_mkM _ _ _ (⟨t281, 1⟩ : S62) (Kd.R_mono (Kd.R_tight rfl (Kd.R_mono (ok' := fun k_ => ((fun _ => True)) k_ ∧ some k_ ≠ (u281001 : Value).ownBlock) (Kd.R_apart' (HO283.out) (Kd.S_typed HO_281001.out) (by decide)) (fun k_ hk => ⟨trivial, hk.2⟩))) (fun _ h_ => h_)))
          (case aB => exact (by repeat (first | (with_reducible first | exact HB.out | apply below_alloc | apply pw_below_drewN | apply below_drew1 | refine below_set ?_ GE280.out) | exact HB.out)))
          (case aF => exact (fun _ _ => trivial))
          (case aO => exact (by (with_reducible repeat (first | apply Kd.S_alloc | apply Kd.S_drewN | apply Kd.S_drew)); exact Kd.S_mono HO_281001.out (fun k_ hk => ⟨trivial, fun e_ => hk.2 e_⟩)))
          (case aS => exact (below_size (by repeat (first | (with_reducible first | exact HB.out | apply below_alloc | apply pw_below_drewN | apply below_drew1 | refine below_set ?_ GE280.out) | exact HB.out))))
          (case aL => have := LMc7.out; omega)
          intro v285 w11 ho hb hg hat
          rw [← Ny284.out] at ho
          have n0_ := Aside0.mk (Go.Proofs.YtkhnhkjihhhbbaaW.PrintWords.blk_grown (g := gb280) (o := .cells #[.int .i64 (wrap64 (1 + t279)), u281001] 52 (0, 0)) (by (with_reducible repeat (first | refine blk_drewN ?_ _ | refine blk_drew ?_ | refine blk_alloc ?_ _)); exact BK280.out) hg (Kd.S_ne HO_281001.out BK280.out (by decide)))
          have n1_ := Aside0.mk (hb)
          have n2_ := Aside0.mk (ho)
          clear BK280
          clear HB
          clear HO_281001
          clear HO283
          have BK280 := n0_
          have HB := n1_
          have HO286 := n2_
          clear n0_ n1_ n2_
          clear ho hb hg hat
          obtain ⟨Ao12, co12, eo12⟩ := Kd.S_slice HO286.out
          (first | subst eo12 | (injection eo12 with f1_ f2_ f3_; have f4_ := f1_.symm; have f5_ := f3_.symm; clear f1_ f2_ f3_; subst f4_; subst f5_))
          refine hK.out _ _ ⟨(blk_cell BK280.out 0).trans rfl, (blk_cell BK280.out 1).trans rfl⟩ (fun hHeld => ?_)
          clear hK K
          refine norm_ (a' := ?_) ?_ ?_
          rotate_left
          · show Act.put _ (some 25) _ = _
            simp only [Act.put, List.setIfInBounds_toArray, List.set_cons_zero, List.set_cons_succ, i64_w, i32_w]
            rfl
          refine pure_ (i := 7) (N := some 26) (v := ?_) (a' := ?_) #[true, true, true, true, true, true, true, true, false] rfl rfl (any_of HT_.out (by kernel_rfl)) (fun _ _ _ h => h) (Or.inl ⟨by rfl, ?_⟩) ?_ ?_
          rotate_left
          · intro w'
            go_simp
            with_reducible rfl
          rotate_left
          · simp only [Act.put, List.setIfInBounds_toArray, List.set_cons_zero, List.set_cons_succ, i64_w, i32_w]
            rfl
          refine last_ (i := 8) (N := none) #[true, true, true, true, true, true, true, true, true] rfl rfl (one_of HT_.out (by kernel_rfl)) (by decide) (fun K hK => ?_)
          have hs13 : w11.cell? ⟨gb280, 1, none⟩ = some (u281001) := (blk_cell BK280.out 1).trans rfl
          have hfs13 := blk_frozen BK280.out 1
          refine skip_ (w1 := ?_) (by rfl) rfl ?_ ?_
          rotate_left
          · go_simp
            rfl
          refine hK.out _ _ ?_
          clear hK K
          refine done_ (done_of HT_.out (by kernel_rfl)) ?_
          try go_wp2
          go_roundg k1
          case measure => have := HK1.out; omega
          case rel => exact ⟨(wrap64 (x4_1 + 1)), (y284), (.slice Ao12 y284.length co12), (by first | rfl | (simp; done) | (simp [*]; done)), H', ⟨by have := HK1.out; omega⟩, ⟨by (with_reducible repeat (first | apply Kd.S_alloc | apply Kd.S_drewN | apply Kd.S_drew)); exact Kd.S_mono (Kd.S_far (p := ⟨gb280, 1, none⟩) (Kd.S_types HO286.out BK280.out (by decide)) (fun _ hk => hk.2) (.slice Ao12 y284.length co12)) (fun _ hk => trivial)⟩, ⟨by (with_reducible repeat (first | refine blk_drewN ?_ _ | refine blk_drew ?_ | refine blk_alloc ?_ _)); refine blk_put (cs := #[.int .i64 (wrap64 (1 + t279)), u281001]) ?_ 1 _ rfl; (with_reducible repeat (first | refine blk_drewN ?_ _ | refine blk_drew ?_ | refine blk_alloc ?_ _)); exact BK280.out⟩, ⟨by repeat (first | (with_reducible first | exact HB.out | apply below_alloc | apply pw_below_drewN | apply below_drew1 | refine below_set ?_ GE280.out) | exact HB.out)⟩⟩
        · rw [if_neg c7] at H
          exact absurd H (by simp)
      · rw [if_neg c5] at H
        have c5b0 : decide (x4_1 < (wrap64 (1 + t279))) = false := decide_eq_false c5
        clear c5
        have H' := Aside0.mk H
        clear H
        go_wp2
        go_loopg [5] k1 (fun kq v5 w' => ∃ (x5_2 : Int), v5 = .int .i64 x5_2 ∧ Aside0 (thermionlaw06_PumpRows.l1 kq (wrap64 (1 + t279)) x5_2 (wrap64 (1 + t279)) x281001_1 = some r) ∧ Aside0 (kq ≤ k1) ∧ Aside0 (Kd.S k62 62 w' w.heap.size (fun _ => True) u281001 x281001_1) ∧ Aside0 (w'.heap[gb280]? = some (.cells #[.int .i64 (wrap64 (1 + t279)), u281001] 52 (0, 0))) ∧ Aside0 (Below w.heap.size w w'))
        case atStart => exact ⟨(0), (by first | rfl | (simp; done) | (simp [*]; done)), H', ⟨Nat.le_refl _⟩, ⟨by (with_reducible repeat (first | apply Kd.S_alloc | apply Kd.S_drewN | apply Kd.S_drew)); exact HO_281001.out⟩, ⟨by (with_reducible repeat (first | refine blk_drewN ?_ _ | refine blk_drew ?_ | refine blk_alloc ?_ _)); exact BK280.out⟩, ⟨by repeat (first | (with_reducible first | exact HB.out | apply below_alloc | apply pw_below_drewN | apply below_drew1 | refine below_set ?_ GE280.out) | exact HB.out)⟩⟩
        case round =>
          clear H'
          try clear c1
          try clear c2
          try clear p2
          try clear c5
          try clear c5b0
          try clear p6
          try clear c7
          try clear hcz4_0
          try clear hcz4_1
          try clear hfz4_0
          try clear hfz4_1
          try clear p2
          obtain ⟨x5_2, rfl, HA, HK2, HO_281001, BK280, HB⟩ := hrel
          cases gk with
          | zero => exact absurd HA.out (by simp [thermionlaw06_PumpRows.l1])
          | succ k2 =>
            have H := HA.out
            clear HA
            simp only [thermionlaw06_PumpRows.l1] at H
            by_cases c14 : 0 ≤ x5_2
            · rw [if_pos c14] at H
              have c14b0 := eq_true c14
              have c14b1 : decide (0 ≤ x5_2) = true := decide_eq_true c14
              clear c14
              obtain ⟨ji15, hji15⟩ : ∃ j_ : Int, (shl .i64 1 x5_2) = j_ := ⟨_, rfl⟩
              replace H : (if (ji15) < (wrap64 (1 + t279)) then (thermionlaw06_PumpRows.l1 k2 (wrap64 (1 + t279)) (wrap64 (x5_2 + 1)) (wrap64 (1 + t279)) x281001_1) else ((thermionkit_First.f k2 (wrap64 (1 + t279))).bind fun t287 => ((pump_Worst.f (wrap64 (1 + t279)) x281001_1 t287).bind fun bt290 => (if bt290.2.2 = 0 then (if bt290.1 = x5_2 then ((thermionlaw06_awake.f).bind fun t293 => (some t293)) else (some false)) else (some false))))) = some r := by first | (rw [hji15] at H; exact H) | (simp only [hji15] at H ⊢; exact H)
              have hji15_ : (IntKind.i64.wrap (1 * 2 ^ min x5_2.toNat 64)) = ji15 := hji15
              have hji15z : x5_2 ≤ 64 → (IntKind.i64.wrap (1 * 2 ^ x5_2.toNat)) = ji15 := shl_small hji15
              have hji15u : (IntKind.i64.wrap (2 ^ min x5_2.toNat 64)) = ji15 := by have h_ := hji15_; rw [Int.one_mul] at h_; exact h_
              have hji15v : x5_2 ≤ 64 → (IntKind.i64.wrap (2 ^ x5_2.toNat)) = ji15 := fun hle_ => by have h_ := hji15z hle_; rw [Int.one_mul] at h_; exact h_
              have hji15y : (wrap64 (1 * 2 ^ min x5_2.toNat 64)) = ji15 := (i64_w _).symm.trans hji15_
              have hji15x : x5_2 ≤ 64 → (wrap64 (1 * 2 ^ x5_2.toNat)) = ji15 := fun h_ => (i64_w _).symm.trans (hji15z h_)
              by_cases c16 : (ji15) < (wrap64 (1 + t279))
              · rw [if_pos c16] at H
                have c16b0 : decide ((ji15) < (wrap64 (1 + t279))) = true := decide_eq_true c16
                clear c16
                have H' := Aside0.mk H
                clear H
                go_wp2
                go_roundg k2
                case measure => have := HK1.out; have := HK2.out; omega
                case rel => exact ⟨(wrap64 (x5_2 + 1)), (by first | rfl | (simp; done) | (simp [*]; done)), H', ⟨by have := HK1.out; have := HK2.out; omega⟩, ⟨by (with_reducible repeat (first | apply Kd.S_alloc | apply Kd.S_drewN | apply Kd.S_drew)); exact HO_281001.out⟩, ⟨by (with_reducible repeat (first | refine blk_drewN ?_ _ | refine blk_drew ?_ | refine blk_alloc ?_ _)); exact BK280.out⟩, ⟨by repeat (first | (with_reducible first | exact HB.out | apply below_alloc | apply pw_below_drewN | apply below_drew1 | refine below_set ?_ GE280.out) | exact HB.out)⟩⟩
              · rw [if_neg c16] at H
                have c16b0 : decide ((ji15) < (wrap64 (1 + t279))) = false := decide_eq_false c16
                clear c16
                replace H := Option.bind_eq_some_iff.mp H
                obtain ⟨t287, A170, H⟩ := H
                replace H : ((pump_Worst.f (wrap64 (1 + t279)) x281001_1 t287).bind fun bt290 => (if bt290.2.2 = 0 then (if bt290.1 = x5_2 then ((thermionlaw06_awake.f).bind fun t293 => (some t293)) else (some false)) else (some false))) = some r := H
                have A17 := Aside0.mk A170
                clear A170
                replace H := Option.bind_eq_some_iff.mp H
                obtain ⟨⟨t290, t291, t292⟩, A180, H⟩ := H
                replace H : (if t292 = 0 then (if t290 = x5_2 then ((thermionlaw06_awake.f).bind fun t293 => (some t293)) else (some false)) else (some false)) = some r := H
                have A18 := Aside0.mk A180
                clear A180
                by_cases c19 : t292 = 0
                · rw [if_pos c19] at H
                  have c19b0 : (t292 == 0) = true := beq_iff_eq.mpr c19
                  have c19b1 : (t292 != 0) = false := bne_eq_false_iff_eq.mpr c19
                  clear c19
                  by_cases c20 : t290 = x5_2
                  · rw [if_pos c20] at H
                    have c20b0 : (t290 == x5_2) = true := beq_iff_eq.mpr c20
                    have c20b1 : (t290 != x5_2) = false := bne_eq_false_iff_eq.mpr c20
                    clear c20
                    replace H := Option.bind_eq_some_iff.mp H
                    obtain ⟨t293, A210, H⟩ := H
                    replace H : (some t293) = some r := H
                    have A21 := Aside0.mk A210
                    clear A210
                    obtain rfl := Option.some.inj H
                    try go_wp2
                    have n0_ := Aside0.mk (Kd.S_drew HO_281001.out)
                    have n1_ := Aside0.mk (blk_drew BK280.out)
                    have n2_ := Aside0.mk (below_drew1 HB.out)
                    clear HO_281001
                    clear BK280
                    clear HB
                    have HO_281001 := n0_
                    have BK280 := n1_
                    have HB := n2_
                    clear n0_ n1_ n2_
                    refine start_ (n := 11) (S := fun w' => w'.cell? ⟨gb280, 0, none⟩ = some (.int .i64 (wrap64 (1 + t279))) ∧ w'.cell? ⟨gb280, 1, none⟩ = some (u281001)) (ds := []) #[false, false, false, false, false, false, false, false, false, false, false] (by kernel_rfl) rfl rfl ⟨(blk_cell BK280.out 0).trans rfl, (blk_cell BK280.out 1).trans rfl⟩ (fun hHeld => ?_); refine with_tabW thermionlaw06_PumpRows.tab10 thermionlaw06_PumpRows.bits10 (fun HT_ HW_ => ?_)
                    generalize wr.drew = w22 at HO_281001 BK280 HB hHeld ⊢
                    refine pure_ (i := 1) (N := some 35) (v := ?_) (a' := ?_) #[false, true, false, false, false, false, false, false, false, false, false] rfl rfl (any_of HT_.out (by kernel_rfl)) (fun _ _ _ h => h) (Or.inl ⟨by rfl, ?_⟩) ?_ ?_
                    rotate_left
                    · intro w'
                      go_simp
                      with_reducible rfl
                    rotate_left
                    · simp only [Act.put, List.setIfInBounds_toArray, List.set_cons_zero, List.set_cons_succ, i64_w, i32_w]
                      rfl
                    refine take_ (i := 0) (N := some 34) (v := ?_) (a' := ?_) #[true, true, false, false, false, false, false, false, false, false, false] rfl rfl (take_ofW HT_.out HW_.out (by kernel_rfl)) (fun _ _ _ h => h) (Or.inl ⟨by rfl, ?_⟩) hHeld ?_ ?_
                    rotate_left
                    · rintro w' ⟨s0, s1⟩
                      go_simp
                      with_reducible rfl
                    rotate_left
                    · simp only [Act.put, List.setIfInBounds_toArray, List.set_cons_zero, List.set_cons_succ, i64_w, i32_w]
                      rfl
                    refine one_ (i := 2) (N := some 36) #[true, true, true, false, false, false, false, false, false, false, false] rfl rfl (one_of HT_.out (by kernel_rfl)) (by decide) (fun K hK => ?_)
                    refine goes_ Try.func27 (by kernel_rfl) rfl #[.int .i64 (wrap64 (1 + t279))] (by rfl) rfl rfl (by (try simp only [List.map_toArray, List.map_cons, List.map_nil]); first | done | rfl | (simp only [List.length_drop, List.length_take]; rfl)) ?_
                    with_reducible refine (thermionkit_First.calls k2 (wrap64 (1 + t279)) t287 _ A17.out).mono ?_
                    rintro e w23 ⟨v288, rfl, ho0, hb⟩
                    refine ⟨_, rfl, ?_⟩
                    have n0_ := Aside0.mk (Kd.S_elder' (by (with_reducible repeat (first | apply Kd.S_alloc | apply Kd.S_drewN | apply Kd.S_drew)); exact HO_281001.out) (Kd.R_base ho0) hb)
                    have n1_ := Aside0.mk (Kd.R_lower ho0 (below_size (by repeat (first | (with_reducible first | exact HB.out | apply below_alloc | apply pw_below_drewN | apply below_drew1 | refine below_set ?_ GE280.out) | exact HB.out))))
                    have n2_ := Aside0.mk (blk_below (g := gb280) (o := .cells #[.int .i64 (wrap64 (1 + t279)), u281001] 52 (0, 0)) (by (with_reducible repeat (first | refine blk_drewN ?_ _ | refine blk_drew ?_ | refine blk_alloc ?_ _)); exact BK280.out) hb)
                    have n3_ := Aside0.mk (below_step (by repeat (first | (with_reducible first | exact HB.out | apply below_alloc | apply pw_below_drewN | apply below_drew1 | refine below_set ?_ GE280.out) | exact HB.out)) hb)
                    clear HO_281001
                    clear BK280
                    clear HB
                    have HO_281001 := n0_
                    have HO289 := n1_
                    have BK280 := n2_
                    have HB := n3_
                    clear n0_ n1_ n2_ n3_
                    (try clear hb)
                    (try clear hb2)
                    (try clear hk)
                    (try clear hi)
                    (try clear ho0)
                    obtain ⟨Ao24, co24, eo24⟩ := Kd.S_slice HO_281001.out
                    (first | subst eo24 | (injection eo24 with f1_ f2_ f3_; have f4_ := f1_.symm; have f5_ := f3_.symm; clear f1_ f2_ f3_; subst f4_; subst f5_))
                    obtain ⟨Ao25, co25, eo25⟩ := Kd.R_slice HO289.out
                    (first | subst eo25 | (injection eo25 with f1_ f2_ f3_; have f4_ := f1_.symm; have f5_ := f3_.symm; clear f1_ f2_ f3_; subst f4_; subst f5_))
                    refine hK.out _ _ ⟨(blk_cell BK280.out 0).trans rfl, (blk_cell BK280.out 1).trans rfl⟩ (fun hHeld => ?_)
                    clear hK K
                    refine norm_ (a' := ?_) ?_ ?_
                    rotate_left
                    · show Act.put _ (some 36) _ = _
                      simp only [Act.put, List.setIfInBounds_toArray, List.set_cons_zero, List.set_cons_succ, i64_w, i32_w]
                      rfl
                    refine one_ (i := 3) (N := some 37) #[true, true, true, true, false, false, false, false, false, false, false] rfl rfl (one_of HT_.out (by kernel_rfl)) (by decide) (fun K hK => ?_)
                    refine goes_ Try.func26 (by kernel_rfl) rfl #[.agg #[.int .i64 (wrap64 (1 + t279)), .slice Ao24 x281001_1.length co24], .slice Ao25 t287.length co25] (by rfl) rfl rfl (by (try simp only [List.map_toArray, List.map_cons, List.map_nil]); first | done | rfl | (simp only [List.length_drop, List.length_take]; rfl)) ?_
                    with_reducible refine (pump_Worst.calls (wrap64 (1 + t279)) _ _ x281001_1 _ _ t287 t290 t291 t292 _ ?side1 ?side2 ?side3 ?side4 A18.out).mono ?_
                    (case side1 => repeat (first | exact (Kd.S_reads' HO_281001.out).2.2 | (with_reducible refine Kd.C_alloc ?_ _) | (with_reducible refine Kd.C_drewN ?_ _) | (with_reducible refine Kd.C_drew ?_)))
                    (case side2 => exact (Kd.S_reads' HO_281001.out).2.1)
                    (case side3 => repeat (first | exact (Kd.R_reads' HO289.out).2.2 | (with_reducible refine Kd.C_alloc ?_ _) | (with_reducible refine Kd.C_drewN ?_ _) | (with_reducible refine Kd.C_drew ?_)))
                    (case side4 => exact (Kd.R_reads' HO289.out).2.1)
                    rintro e w26 ⟨rfl, hb⟩
                    refine ⟨_, rfl, ?_⟩
                    have n0_ := Aside0.mk (Kd.S_below (by (with_reducible repeat (first | apply Kd.S_alloc | apply Kd.S_drewN | apply Kd.S_drew)); exact HO_281001.out) hb)
                    have n1_ := Aside0.mk (Kd.R_below (by (with_reducible repeat (first | apply Kd.R_alloc | apply Kd.R_drewN | apply Kd.R_drew)); exact HO289.out) hb)
                    have n2_ := Aside0.mk (blk_below (g := gb280) (o := .cells #[.int .i64 (wrap64 (1 + t279)), .slice Ao24 x281001_1.length co24] 52 (0, 0)) (by (with_reducible repeat (first | refine blk_drewN ?_ _ | refine blk_drew ?_ | refine blk_alloc ?_ _)); exact BK280.out) hb)
                    have n3_ := Aside0.mk (below_step (by repeat (first | (with_reducible first | exact HB.out | apply below_alloc | apply pw_below_drewN | apply below_drew1 | refine below_set ?_ GE280.out) | exact HB.out)) hb)
                    clear HO_281001
                    clear HO289
                    clear BK280
                    clear HB
                    have HO_281001 := n0_
                    have HO289 := n1_
                    have BK280 := n2_
                    have HB := n3_
                    clear n0_ n1_ n2_ n3_
                    (try clear hb)
                    (try clear hb2)
                    (try clear hk)
                    (try clear hi)
                    refine hK.out _ _ ⟨(blk_cell BK280.out 0).trans rfl, (blk_cell BK280.out 1).trans rfl⟩ (fun hHeld => ?_)
                    clear hK K
                    refine norm_ (a' := ?_) ?_ ?_
                    rotate_left
                    · show Act.put _ (some 37) _ = _
                      simp only [Act.put, List.setIfInBounds_toArray, List.set_cons_zero, List.set_cons_succ, i64_w, i32_w]
                      rfl
                    refine pure_ (i := 4) (N := some 33) (v := ?_) (a' := ?_) #[true, true, true, true, true, false, false, false, false, false, false] rfl rfl (any_of HT_.out (by kernel_rfl)) (fun _ _ _ h => h) (Or.inl ⟨by rfl, ?_⟩) ?_ ?_
                    rotate_left
                    · intro w'
                      go_simp
                      with_reducible rfl
                    rotate_left
                    · simp only [Act.put, List.setIfInBounds_toArray, List.set_cons_zero, List.set_cons_succ, i64_w, i32_w]
                      rfl
                    refine pure_ (i := 5) (N := some 38) (v := ?_) (a' := ?_) #[true, true, true, true, true, true, false, false, false, false, false] rfl rfl (any_of HT_.out (by kernel_rfl)) (fun _ _ _ h => h) (Or.inl ⟨by rfl, ?_⟩) ?_ ?_
                    rotate_left
                    · intro w'
                      go_simp
                      with_reducible rfl
                    rotate_left
                    · simp only [Act.put, List.setIfInBounds_toArray, List.set_cons_zero, List.set_cons_succ, i64_w, i32_w]
                      rfl
                    refine pure_ (i := 6) (N := some 39) (v := ?_) (a' := ?_) #[true, true, true, true, true, true, true, false, false, false, false] rfl rfl (any_of HT_.out (by kernel_rfl)) (fun _ _ _ h => h) (Or.inl ⟨by rfl, ?_⟩) ?_ ?_
                    rotate_left
                    · intro w'
                      go_simp
                      with_reducible rfl
                    rotate_left
                    · simp only [Act.put, List.setIfInBounds_toArray, List.set_cons_zero, List.set_cons_succ, i64_w, i32_w]
                      rfl
                    refine pure_ (i := 7) (N := some 40) (v := ?_) (a' := ?_) #[true, true, true, true, true, true, true, true, false, false, false] rfl rfl (any_of HT_.out (by kernel_rfl)) (fun _ _ _ h => h) (Or.inl ⟨by rfl, ?_⟩) ?_ ?_
                    rotate_left
                    · intro w'
                      go_simp
                      with_reducible rfl
                    rotate_left
                    · simp only [Act.put, List.setIfInBounds_toArray, List.set_cons_zero, List.set_cons_succ, i64_w, i32_w]
                      rfl
                    refine pure_ (i := 8) (N := some 6) (v := ?_) (a' := ?_) #[true, true, true, true, true, true, true, true, true, false, false] rfl rfl (any_of HT_.out (by kernel_rfl)) (fun _ _ _ h => h) (Or.inl ⟨by rfl, ?_⟩) ?_ ?_
                    rotate_left
                    · intro w'
                      go_simp
                      with_reducible rfl
                    rotate_left
                    · simp only [Act.put, List.setIfInBounds_toArray, List.set_cons_zero, List.set_cons_succ, i64_w, i32_w]
                      rfl
                    refine pure_ (i := 9) (N := some 7) (v := ?_) (a' := ?_) #[true, true, true, true, true, true, true, true, true, true, false] rfl rfl (any_of HT_.out (by kernel_rfl)) (fun _ _ _ h => h) (Or.inl ⟨by rfl, ?_⟩) ?_ ?_
                    rotate_left
                    · intro w'
                      go_simp
                      with_reducible rfl
                    rotate_left
                    · simp only [Act.put, List.setIfInBounds_toArray, List.set_cons_zero, List.set_cons_succ, i64_w, i32_w]
                      rfl
                    refine pure_ (i := 10) (N := some 8) (v := ?_) (a' := ?_) #[true, true, true, true, true, true, true, true, true, true, true] rfl rfl (any_of HT_.out (by kernel_rfl)) (fun _ _ _ h => h) (Or.inl ⟨by rfl, ?_⟩) ?_ ?_
                    rotate_left
                    · intro w'
                      go_simp
                      with_reducible rfl
                    rotate_left
                    · simp only [Act.put, List.setIfInBounds_toArray, List.set_cons_zero, List.set_cons_succ, i64_w, i32_w]
                      rfl
                    refine done_ (done_of HT_.out (by kernel_rfl)) ?_
                    try go_wp2_with (first | (go_at_call 23; (with_reducible refine (thermionlaw06_awake.calls  t293 _ A21.out).mono ?_); rintro e w27 ⟨rfl, hb⟩; have n0_ := Aside0.mk (Kd.S_below (by (with_reducible repeat (first | apply Kd.S_alloc | apply Kd.S_drewN | apply Kd.S_drew)); exact HO_281001.out) hb); have n1_ := Aside0.mk (Kd.R_below (by (with_reducible repeat (first | apply Kd.R_alloc | apply Kd.R_drewN | apply Kd.R_drew)); exact HO289.out) hb); have n2_ := Aside0.mk (blk_below (g := gb280) (o := .cells #[.int .i64 (wrap64 (1 + t279)), .slice Ao24 x281001_1.length co24] 52 (0, 0)) (by (with_reducible repeat (first | refine blk_drewN ?_ _ | refine blk_drew ?_ | refine blk_alloc ?_ _)); exact BK280.out) hb); have n3_ := Aside0.mk (below_step (by repeat (first | (with_reducible first | exact HB.out | apply below_alloc | apply pw_below_drewN | apply below_drew1 | refine below_set ?_ GE280.out) | exact HB.out)) hb); clear HO_281001; clear HO289; clear BK280; clear HB; have HO_281001 := n0_; have HO289 := n1_; have BK280 := n2_; have HB := n3_; clear n0_ n1_ n2_ n3_; (try clear hb); (try clear hb2); (try clear hk); (try clear hi)))
                    go_ret
                    exact ⟨by first | rfl | (simp [errW_none, errW_some] <;> rfl) | (simp only [← hji15]; first | rfl | (simp [errW_none, errW_some] <;> rfl)) | (simp [*, errW_none, errW_some] <;> rfl), by repeat (first | (with_reducible first | exact HB.out | apply below_alloc | apply pw_below_drewN | apply below_drew1 | refine below_set ?_ GE280.out) | exact HB.out)⟩
                  · rw [if_neg c20] at H
                    have c20b0 : (t290 == x5_2) = false := beq_eq_false_iff_ne.mpr c20
                    have c20b1 : (t290 != x5_2) = true := bne_iff_ne.mpr c20
                    obtain rfl := Option.some.inj H
                    try go_wp2
                    have n0_ := Aside0.mk (Kd.S_drew HO_281001.out)
                    have n1_ := Aside0.mk (blk_drew BK280.out)
                    have n2_ := Aside0.mk (below_drew1 HB.out)
                    clear HO_281001
                    clear BK280
                    clear HB
                    have HO_281001 := n0_
                    have BK280 := n1_
                    have HB := n2_
                    clear n0_ n1_ n2_
                    refine start_ (n := 11) (S := fun w' => w'.cell? ⟨gb280, 0, none⟩ = some (.int .i64 (wrap64 (1 + t279))) ∧ w'.cell? ⟨gb280, 1, none⟩ = some (u281001)) (ds := []) #[false, false, false, false, false, false, false, false, false, false, false] (by kernel_rfl) rfl rfl ⟨(blk_cell BK280.out 0).trans rfl, (blk_cell BK280.out 1).trans rfl⟩ (fun hHeld => ?_); refine with_tabW thermionlaw06_PumpRows.tab10 thermionlaw06_PumpRows.bits10 (fun HT_ HW_ => ?_)
                    generalize wr.drew = w28 at HO_281001 BK280 HB hHeld ⊢
                    refine pure_ (i := 1) (N := some 35) (v := ?_) (a' := ?_) #[false, true, false, false, false, false, false, false, false, false, false] rfl rfl (any_of HT_.out (by kernel_rfl)) (fun _ _ _ h => h) (Or.inl ⟨by rfl, ?_⟩) ?_ ?_
                    rotate_left
                    · intro w'
                      go_simp
                      with_reducible rfl
                    rotate_left
                    · simp only [Act.put, List.setIfInBounds_toArray, List.set_cons_zero, List.set_cons_succ, i64_w, i32_w]
                      rfl
                    refine take_ (i := 0) (N := some 34) (v := ?_) (a' := ?_) #[true, true, false, false, false, false, false, false, false, false, false] rfl rfl (take_ofW HT_.out HW_.out (by kernel_rfl)) (fun _ _ _ h => h) (Or.inl ⟨by rfl, ?_⟩) hHeld ?_ ?_
                    rotate_left
                    · rintro w' ⟨s0, s1⟩
                      go_simp
                      with_reducible rfl
                    rotate_left
                    · simp only [Act.put, List.setIfInBounds_toArray, List.set_cons_zero, List.set_cons_succ, i64_w, i32_w]
                      rfl
                    refine one_ (i := 2) (N := some 36) #[true, true, true, false, false, false, false, false, false, false, false] rfl rfl (one_of HT_.out (by kernel_rfl)) (by decide) (fun K hK => ?_)
                    refine goes_ Try.func27 (by kernel_rfl) rfl #[.int .i64 (wrap64 (1 + t279))] (by rfl) rfl rfl (by (try simp only [List.map_toArray, List.map_cons, List.map_nil]); first | done | rfl | (simp only [List.length_drop, List.length_take]; rfl)) ?_
                    with_reducible refine (thermionkit_First.calls k2 (wrap64 (1 + t279)) t287 _ A17.out).mono ?_
                    rintro e w29 ⟨v288, rfl, ho0, hb⟩
                    refine ⟨_, rfl, ?_⟩
                    have n0_ := Aside0.mk (Kd.S_elder' (by (with_reducible repeat (first | apply Kd.S_alloc | apply Kd.S_drewN | apply Kd.S_drew)); exact HO_281001.out) (Kd.R_base ho0) hb)
                    have n1_ := Aside0.mk (Kd.R_lower ho0 (below_size (by repeat (first | (with_reducible first | exact HB.out | apply below_alloc | apply pw_below_drewN | apply below_drew1 | refine below_set ?_ GE280.out) | exact HB.out))))
                    have n2_ := Aside0.mk (blk_below (g := gb280) (o := .cells #[.int .i64 (wrap64 (1 + t279)), u281001] 52 (0, 0)) (by (with_reducible repeat (first | refine blk_drewN ?_ _ | refine blk_drew ?_ | refine blk_alloc ?_ _)); exact BK280.out) hb)
                    have n3_ := Aside0.mk (below_step (by repeat (first | (with_reducible first | exact HB.out | apply below_alloc | apply pw_below_drewN | apply below_drew1 | refine below_set ?_ GE280.out) | exact HB.out)) hb)
                    clear HO_281001
                    clear BK280
                    clear HB
                    have HO_281001 := n0_
                    have HO289 := n1_
                    have BK280 := n2_
                    have HB := n3_
                    clear n0_ n1_ n2_ n3_
                    (try clear hb)
                    (try clear hb2)
                    (try clear hk)
                    (try clear hi)
                    (try clear ho0)
                    obtain ⟨Ao30, co30, eo30⟩ := Kd.S_slice HO_281001.out
                    (first | subst eo30 | (injection eo30 with f1_ f2_ f3_; have f4_ := f1_.symm; have f5_ := f3_.symm; clear f1_ f2_ f3_; subst f4_; subst f5_))
                    obtain ⟨Ao31, co31, eo31⟩ := Kd.R_slice HO289.out
                    (first | subst eo31 | (injection eo31 with f1_ f2_ f3_; have f4_ := f1_.symm; have f5_ := f3_.symm; clear f1_ f2_ f3_; subst f4_; subst f5_))
                    refine hK.out _ _ ⟨(blk_cell BK280.out 0).trans rfl, (blk_cell BK280.out 1).trans rfl⟩ (fun hHeld => ?_)
                    clear hK K
                    refine norm_ (a' := ?_) ?_ ?_
                    rotate_left
                    · show Act.put _ (some 36) _ = _
                      simp only [Act.put, List.setIfInBounds_toArray, List.set_cons_zero, List.set_cons_succ, i64_w, i32_w]
                      rfl
                    refine one_ (i := 3) (N := some 37) #[true, true, true, true, false, false, false, false, false, false, false] rfl rfl (one_of HT_.out (by kernel_rfl)) (by decide) (fun K hK => ?_)
                    refine goes_ Try.func26 (by kernel_rfl) rfl #[.agg #[.int .i64 (wrap64 (1 + t279)), .slice Ao30 x281001_1.length co30], .slice Ao31 t287.length co31] (by rfl) rfl rfl (by (try simp only [List.map_toArray, List.map_cons, List.map_nil]); first | done | rfl | (simp only [List.length_drop, List.length_take]; rfl)) ?_
                    with_reducible refine (pump_Worst.calls (wrap64 (1 + t279)) _ _ x281001_1 _ _ t287 t290 t291 t292 _ ?side1 ?side2 ?side3 ?side4 A18.out).mono ?_
                    (case side1 => repeat (first | exact (Kd.S_reads' HO_281001.out).2.2 | (with_reducible refine Kd.C_alloc ?_ _) | (with_reducible refine Kd.C_drewN ?_ _) | (with_reducible refine Kd.C_drew ?_)))
                    (case side2 => exact (Kd.S_reads' HO_281001.out).2.1)
                    (case side3 => repeat (first | exact (Kd.R_reads' HO289.out).2.2 | (with_reducible refine Kd.C_alloc ?_ _) | (with_reducible refine Kd.C_drewN ?_ _) | (with_reducible refine Kd.C_drew ?_)))
                    (case side4 => exact (Kd.R_reads' HO289.out).2.1)
                    rintro e w32 ⟨rfl, hb⟩
                    refine ⟨_, rfl, ?_⟩
                    have n0_ := Aside0.mk (Kd.S_below (by (with_reducible repeat (first | apply Kd.S_alloc | apply Kd.S_drewN | apply Kd.S_drew)); exact HO_281001.out) hb)
                    have n1_ := Aside0.mk (Kd.R_below (by (with_reducible repeat (first | apply Kd.R_alloc | apply Kd.R_drewN | apply Kd.R_drew)); exact HO289.out) hb)
                    have n2_ := Aside0.mk (blk_below (g := gb280) (o := .cells #[.int .i64 (wrap64 (1 + t279)), .slice Ao30 x281001_1.length co30] 52 (0, 0)) (by (with_reducible repeat (first | refine blk_drewN ?_ _ | refine blk_drew ?_ | refine blk_alloc ?_ _)); exact BK280.out) hb)
                    have n3_ := Aside0.mk (below_step (by repeat (first | (with_reducible first | exact HB.out | apply below_alloc | apply pw_below_drewN | apply below_drew1 | refine below_set ?_ GE280.out) | exact HB.out)) hb)
                    clear HO_281001
                    clear HO289
                    clear BK280
                    clear HB
                    have HO_281001 := n0_
                    have HO289 := n1_
                    have BK280 := n2_
                    have HB := n3_
                    clear n0_ n1_ n2_ n3_
                    (try clear hb)
                    (try clear hb2)
                    (try clear hk)
                    (try clear hi)
                    refine hK.out _ _ ⟨(blk_cell BK280.out 0).trans rfl, (blk_cell BK280.out 1).trans rfl⟩ (fun hHeld => ?_)
                    clear hK K
                    refine norm_ (a' := ?_) ?_ ?_
                    rotate_left
                    · show Act.put _ (some 37) _ = _
                      simp only [Act.put, List.setIfInBounds_toArray, List.set_cons_zero, List.set_cons_succ, i64_w, i32_w]
                      rfl
                    refine pure_ (i := 4) (N := some 33) (v := ?_) (a' := ?_) #[true, true, true, true, true, false, false, false, false, false, false] rfl rfl (any_of HT_.out (by kernel_rfl)) (fun _ _ _ h => h) (Or.inl ⟨by rfl, ?_⟩) ?_ ?_
                    rotate_left
                    · intro w'
                      go_simp
                      with_reducible rfl
                    rotate_left
                    · simp only [Act.put, List.setIfInBounds_toArray, List.set_cons_zero, List.set_cons_succ, i64_w, i32_w]
                      rfl
                    refine pure_ (i := 5) (N := some 38) (v := ?_) (a' := ?_) #[true, true, true, true, true, true, false, false, false, false, false] rfl rfl (any_of HT_.out (by kernel_rfl)) (fun _ _ _ h => h) (Or.inl ⟨by rfl, ?_⟩) ?_ ?_
                    rotate_left
                    · intro w'
                      go_simp
                      with_reducible rfl
                    rotate_left
                    · simp only [Act.put, List.setIfInBounds_toArray, List.set_cons_zero, List.set_cons_succ, i64_w, i32_w]
                      rfl
                    refine pure_ (i := 6) (N := some 39) (v := ?_) (a' := ?_) #[true, true, true, true, true, true, true, false, false, false, false] rfl rfl (any_of HT_.out (by kernel_rfl)) (fun _ _ _ h => h) (Or.inl ⟨by rfl, ?_⟩) ?_ ?_
                    rotate_left
                    · intro w'
                      go_simp
                      with_reducible rfl
                    rotate_left
                    · simp only [Act.put, List.setIfInBounds_toArray, List.set_cons_zero, List.set_cons_succ, i64_w, i32_w]
                      rfl
                    refine pure_ (i := 7) (N := some 40) (v := ?_) (a' := ?_) #[true, true, true, true, true, true, true, true, false, false, false] rfl rfl (any_of HT_.out (by kernel_rfl)) (fun _ _ _ h => h) (Or.inl ⟨by rfl, ?_⟩) ?_ ?_
                    rotate_left
                    · intro w'
                      go_simp
                      with_reducible rfl
                    rotate_left
                    · simp only [Act.put, List.setIfInBounds_toArray, List.set_cons_zero, List.set_cons_succ, i64_w, i32_w]
                      rfl
                    refine pure_ (i := 8) (N := some 6) (v := ?_) (a' := ?_) #[true, true, true, true, true, true, true, true, true, false, false] rfl rfl (any_of HT_.out (by kernel_rfl)) (fun _ _ _ h => h) (Or.inl ⟨by rfl, ?_⟩) ?_ ?_
                    rotate_left
                    · intro w'
                      go_simp
                      with_reducible rfl
                    rotate_left
                    · simp only [Act.put, List.setIfInBounds_toArray, List.set_cons_zero, List.set_cons_succ, i64_w, i32_w]
                      rfl
                    refine pure_ (i := 9) (N := some 7) (v := ?_) (a' := ?_) #[true, true, true, true, true, true, true, true, true, true, false] rfl rfl (any_of HT_.out (by kernel_rfl)) (fun _ _ _ h => h) (Or.inl ⟨by rfl, ?_⟩) ?_ ?_
                    rotate_left
                    · intro w'
                      go_simp
                      with_reducible rfl
                    rotate_left
                    · simp only [Act.put, List.setIfInBounds_toArray, List.set_cons_zero, List.set_cons_succ, i64_w, i32_w]
                      rfl
                    refine pure_ (i := 10) (N := some 8) (v := ?_) (a' := ?_) #[true, true, true, true, true, true, true, true, true, true, true] rfl rfl (any_of HT_.out (by kernel_rfl)) (fun _ _ _ h => h) (Or.inl ⟨by rfl, ?_⟩) ?_ ?_
                    rotate_left
                    · intro w'
                      go_simp
                      with_reducible rfl
                    rotate_left
                    · simp only [Act.put, List.setIfInBounds_toArray, List.set_cons_zero, List.set_cons_succ, i64_w, i32_w]
                      rfl
                    refine done_ (done_of HT_.out (by kernel_rfl)) ?_
                    try go_wp2
                    go_ret
                    exact ⟨by first | rfl | (simp [errW_none, errW_some] <;> rfl) | (simp only [← hji15]; first | rfl | (simp [errW_none, errW_some] <;> rfl)) | (simp [*, errW_none, errW_some] <;> rfl), by repeat (first | (with_reducible first | exact HB.out | apply below_alloc | apply pw_below_drewN | apply below_drew1 | refine below_set ?_ GE280.out) | exact HB.out)⟩
                · rw [if_neg c19] at H
                  have c19b0 : (t292 == 0) = false := beq_eq_false_iff_ne.mpr c19
                  have c19b1 : (t292 != 0) = true := bne_iff_ne.mpr c19
                  obtain rfl := Option.some.inj H
                  try go_wp2
                  have n0_ := Aside0.mk (Kd.S_drew HO_281001.out)
                  have n1_ := Aside0.mk (blk_drew BK280.out)
                  have n2_ := Aside0.mk (below_drew1 HB.out)
                  clear HO_281001
                  clear BK280
                  clear HB
                  have HO_281001 := n0_
                  have BK280 := n1_
                  have HB := n2_
                  clear n0_ n1_ n2_
                  refine start_ (n := 11) (S := fun w' => w'.cell? ⟨gb280, 0, none⟩ = some (.int .i64 (wrap64 (1 + t279))) ∧ w'.cell? ⟨gb280, 1, none⟩ = some (u281001)) (ds := []) #[false, false, false, false, false, false, false, false, false, false, false] (by kernel_rfl) rfl rfl ⟨(blk_cell BK280.out 0).trans rfl, (blk_cell BK280.out 1).trans rfl⟩ (fun hHeld => ?_); refine with_tabW thermionlaw06_PumpRows.tab10 thermionlaw06_PumpRows.bits10 (fun HT_ HW_ => ?_)
                  generalize wr.drew = w33 at HO_281001 BK280 HB hHeld ⊢
                  refine pure_ (i := 1) (N := some 35) (v := ?_) (a' := ?_) #[false, true, false, false, false, false, false, false, false, false, false] rfl rfl (any_of HT_.out (by kernel_rfl)) (fun _ _ _ h => h) (Or.inl ⟨by rfl, ?_⟩) ?_ ?_
                  rotate_left
                  · intro w'
                    go_simp
                    with_reducible rfl
                  rotate_left
                  · simp only [Act.put, List.setIfInBounds_toArray, List.set_cons_zero, List.set_cons_succ, i64_w, i32_w]
                    rfl
                  refine take_ (i := 0) (N := some 34) (v := ?_) (a' := ?_) #[true, true, false, false, false, false, false, false, false, false, false] rfl rfl (take_ofW HT_.out HW_.out (by kernel_rfl)) (fun _ _ _ h => h) (Or.inl ⟨by rfl, ?_⟩) hHeld ?_ ?_
                  rotate_left
                  · rintro w' ⟨s0, s1⟩
                    go_simp
                    with_reducible rfl
                  rotate_left
                  · simp only [Act.put, List.setIfInBounds_toArray, List.set_cons_zero, List.set_cons_succ, i64_w, i32_w]
                    rfl
                  refine one_ (i := 2) (N := some 36) #[true, true, true, false, false, false, false, false, false, false, false] rfl rfl (one_of HT_.out (by kernel_rfl)) (by decide) (fun K hK => ?_)
                  refine goes_ Try.func27 (by kernel_rfl) rfl #[.int .i64 (wrap64 (1 + t279))] (by rfl) rfl rfl (by (try simp only [List.map_toArray, List.map_cons, List.map_nil]); first | done | rfl | (simp only [List.length_drop, List.length_take]; rfl)) ?_
                  with_reducible refine (thermionkit_First.calls k2 (wrap64 (1 + t279)) t287 _ A17.out).mono ?_
                  rintro e w34 ⟨v288, rfl, ho0, hb⟩
                  refine ⟨_, rfl, ?_⟩
                  have n0_ := Aside0.mk (Kd.S_elder' (by (with_reducible repeat (first | apply Kd.S_alloc | apply Kd.S_drewN | apply Kd.S_drew)); exact HO_281001.out) (Kd.R_base ho0) hb)
                  have n1_ := Aside0.mk (Kd.R_lower ho0 (below_size (by repeat (first | (with_reducible first | exact HB.out | apply below_alloc | apply pw_below_drewN | apply below_drew1 | refine below_set ?_ GE280.out) | exact HB.out))))
                  have n2_ := Aside0.mk (blk_below (g := gb280) (o := .cells #[.int .i64 (wrap64 (1 + t279)), u281001] 52 (0, 0)) (by (with_reducible repeat (first | refine blk_drewN ?_ _ | refine blk_drew ?_ | refine blk_alloc ?_ _)); exact BK280.out) hb)
                  have n3_ := Aside0.mk (below_step (by repeat (first | (with_reducible first | exact HB.out | apply below_alloc | apply pw_below_drewN | apply below_drew1 | refine below_set ?_ GE280.out) | exact HB.out)) hb)
                  clear HO_281001
                  clear BK280
                  clear HB
                  have HO_281001 := n0_
                  have HO289 := n1_
                  have BK280 := n2_
                  have HB := n3_
                  clear n0_ n1_ n2_ n3_
                  (try clear hb)
                  (try clear hb2)
                  (try clear hk)
                  (try clear hi)
                  (try clear ho0)
                  obtain ⟨Ao35, co35, eo35⟩ := Kd.S_slice HO_281001.out
                  (first | subst eo35 | (injection eo35 with f1_ f2_ f3_; have f4_ := f1_.symm; have f5_ := f3_.symm; clear f1_ f2_ f3_; subst f4_; subst f5_))
                  obtain ⟨Ao36, co36, eo36⟩ := Kd.R_slice HO289.out
                  (first | subst eo36 | (injection eo36 with f1_ f2_ f3_; have f4_ := f1_.symm; have f5_ := f3_.symm; clear f1_ f2_ f3_; subst f4_; subst f5_))
                  refine hK.out _ _ ⟨(blk_cell BK280.out 0).trans rfl, (blk_cell BK280.out 1).trans rfl⟩ (fun hHeld => ?_)
                  clear hK K
                  refine norm_ (a' := ?_) ?_ ?_
                  rotate_left
                  · show Act.put _ (some 36) _ = _
                    simp only [Act.put, List.setIfInBounds_toArray, List.set_cons_zero, List.set_cons_succ, i64_w, i32_w]
                    rfl
                  refine one_ (i := 3) (N := some 37) #[true, true, true, true, false, false, false, false, false, false, false] rfl rfl (one_of HT_.out (by kernel_rfl)) (by decide) (fun K hK => ?_)
                  refine goes_ Try.func26 (by kernel_rfl) rfl #[.agg #[.int .i64 (wrap64 (1 + t279)), .slice Ao35 x281001_1.length co35], .slice Ao36 t287.length co36] (by rfl) rfl rfl (by (try simp only [List.map_toArray, List.map_cons, List.map_nil]); first | done | rfl | (simp only [List.length_drop, List.length_take]; rfl)) ?_
                  with_reducible refine (pump_Worst.calls (wrap64 (1 + t279)) _ _ x281001_1 _ _ t287 t290 t291 t292 _ ?side1 ?side2 ?side3 ?side4 A18.out).mono ?_
                  (case side1 => repeat (first | exact (Kd.S_reads' HO_281001.out).2.2 | (with_reducible refine Kd.C_alloc ?_ _) | (with_reducible refine Kd.C_drewN ?_ _) | (with_reducible refine Kd.C_drew ?_)))
                  (case side2 => exact (Kd.S_reads' HO_281001.out).2.1)
                  (case side3 => repeat (first | exact (Kd.R_reads' HO289.out).2.2 | (with_reducible refine Kd.C_alloc ?_ _) | (with_reducible refine Kd.C_drewN ?_ _) | (with_reducible refine Kd.C_drew ?_)))
                  (case side4 => exact (Kd.R_reads' HO289.out).2.1)
                  rintro e w37 ⟨rfl, hb⟩
                  refine ⟨_, rfl, ?_⟩
                  have n0_ := Aside0.mk (Kd.S_below (by (with_reducible repeat (first | apply Kd.S_alloc | apply Kd.S_drewN | apply Kd.S_drew)); exact HO_281001.out) hb)
                  have n1_ := Aside0.mk (Kd.R_below (by (with_reducible repeat (first | apply Kd.R_alloc | apply Kd.R_drewN | apply Kd.R_drew)); exact HO289.out) hb)
                  have n2_ := Aside0.mk (blk_below (g := gb280) (o := .cells #[.int .i64 (wrap64 (1 + t279)), .slice Ao35 x281001_1.length co35] 52 (0, 0)) (by (with_reducible repeat (first | refine blk_drewN ?_ _ | refine blk_drew ?_ | refine blk_alloc ?_ _)); exact BK280.out) hb)
                  have n3_ := Aside0.mk (below_step (by repeat (first | (with_reducible first | exact HB.out | apply below_alloc | apply pw_below_drewN | apply below_drew1 | refine below_set ?_ GE280.out) | exact HB.out)) hb)
                  clear HO_281001
                  clear HO289
                  clear BK280
                  clear HB
                  have HO_281001 := n0_
                  have HO289 := n1_
                  have BK280 := n2_
                  have HB := n3_
                  clear n0_ n1_ n2_ n3_
                  (try clear hb)
                  (try clear hb2)
                  (try clear hk)
                  (try clear hi)
                  refine hK.out _ _ ⟨(blk_cell BK280.out 0).trans rfl, (blk_cell BK280.out 1).trans rfl⟩ (fun hHeld => ?_)
                  clear hK K
                  refine norm_ (a' := ?_) ?_ ?_
                  rotate_left
                  · show Act.put _ (some 37) _ = _
                    simp only [Act.put, List.setIfInBounds_toArray, List.set_cons_zero, List.set_cons_succ, i64_w, i32_w]
                    rfl
                  refine pure_ (i := 4) (N := some 33) (v := ?_) (a' := ?_) #[true, true, true, true, true, false, false, false, false, false, false] rfl rfl (any_of HT_.out (by kernel_rfl)) (fun _ _ _ h => h) (Or.inl ⟨by rfl, ?_⟩) ?_ ?_
                  rotate_left
                  · intro w'
                    go_simp
                    with_reducible rfl
                  rotate_left
                  · simp only [Act.put, List.setIfInBounds_toArray, List.set_cons_zero, List.set_cons_succ, i64_w, i32_w]
                    rfl
                  refine pure_ (i := 5) (N := some 38) (v := ?_) (a' := ?_) #[true, true, true, true, true, true, false, false, false, false, false] rfl rfl (any_of HT_.out (by kernel_rfl)) (fun _ _ _ h => h) (Or.inl ⟨by rfl, ?_⟩) ?_ ?_
                  rotate_left
                  · intro w'
                    go_simp
                    with_reducible rfl
                  rotate_left
                  · simp only [Act.put, List.setIfInBounds_toArray, List.set_cons_zero, List.set_cons_succ, i64_w, i32_w]
                    rfl
                  refine pure_ (i := 6) (N := some 39) (v := ?_) (a' := ?_) #[true, true, true, true, true, true, true, false, false, false, false] rfl rfl (any_of HT_.out (by kernel_rfl)) (fun _ _ _ h => h) (Or.inl ⟨by rfl, ?_⟩) ?_ ?_
                  rotate_left
                  · intro w'
                    go_simp
                    with_reducible rfl
                  rotate_left
                  · simp only [Act.put, List.setIfInBounds_toArray, List.set_cons_zero, List.set_cons_succ, i64_w, i32_w]
                    rfl
                  refine pure_ (i := 7) (N := some 40) (v := ?_) (a' := ?_) #[true, true, true, true, true, true, true, true, false, false, false] rfl rfl (any_of HT_.out (by kernel_rfl)) (fun _ _ _ h => h) (Or.inl ⟨by rfl, ?_⟩) ?_ ?_
                  rotate_left
                  · intro w'
                    go_simp
                    with_reducible rfl
                  rotate_left
                  · simp only [Act.put, List.setIfInBounds_toArray, List.set_cons_zero, List.set_cons_succ, i64_w, i32_w]
                    rfl
                  refine pure_ (i := 8) (N := some 6) (v := ?_) (a' := ?_) #[true, true, true, true, true, true, true, true, true, false, false] rfl rfl (any_of HT_.out (by kernel_rfl)) (fun _ _ _ h => h) (Or.inl ⟨by rfl, ?_⟩) ?_ ?_
                  rotate_left
                  · intro w'
                    go_simp
                    with_reducible rfl
                  rotate_left
                  · simp only [Act.put, List.setIfInBounds_toArray, List.set_cons_zero, List.set_cons_succ, i64_w, i32_w]
                    rfl
                  refine pure_ (i := 9) (N := some 7) (v := ?_) (a' := ?_) #[true, true, true, true, true, true, true, true, true, true, false] rfl rfl (any_of HT_.out (by kernel_rfl)) (fun _ _ _ h => h) (Or.inl ⟨by rfl, ?_⟩) ?_ ?_
                  rotate_left
                  · intro w'
                    go_simp
                    with_reducible rfl
                  rotate_left
                  · simp only [Act.put, List.setIfInBounds_toArray, List.set_cons_zero, List.set_cons_succ, i64_w, i32_w]
                    rfl
                  refine pure_ (i := 10) (N := some 8) (v := ?_) (a' := ?_) #[true, true, true, true, true, true, true, true, true, true, true] rfl rfl (any_of HT_.out (by kernel_rfl)) (fun _ _ _ h => h) (Or.inl ⟨by rfl, ?_⟩) ?_ ?_
                  rotate_left
                  · intro w'
                    go_simp
                    with_reducible rfl
                  rotate_left
                  · simp only [Act.put, List.setIfInBounds_toArray, List.set_cons_zero, List.set_cons_succ, i64_w, i32_w]
                    rfl
                  refine done_ (done_of HT_.out (by kernel_rfl)) ?_
                  try go_wp2
                  go_ret
                  exact ⟨by first | rfl | (simp [errW_none, errW_some] <;> rfl) | (simp only [← hji15]; first | rfl | (simp [errW_none, errW_some] <;> rfl)) | (simp [*, errW_none, errW_some] <;> rfl), by repeat (first | (with_reducible first | exact HB.out | apply below_alloc | apply pw_below_drewN | apply below_drew1 | refine below_set ?_ GE280.out) | exact HB.out)⟩
            · rw [if_neg c14] at H
              exact absurd H (by simp)
/-- THE ONE PURE STATEMENT of thermionlaw06_PumpRows: yours. -/
def thermionlaw06_PumpRows.Pure : Prop := ∀ (a0 : Int), (Lit.int .i64 a0).wf = true → ∃ k, thermionlaw06_PumpRows.f k a0 = some true
theorem thermionlaw06_PumpRows.walk (P : thermionlaw06_PumpRows.Pure) (a0 : Int) (w : World) (w0 : (Lit.int .i64 a0).wf = true) :
    Calls Try.prog 5 #[.int .i64 a0] w fun e w' => e = .returned (.bool true) ∧ Below w.heap.size w w' := by
  obtain ⟨k, h⟩ := P a0 w0
  refine (thermionlaw06_PumpRows.calls k a0 true w h).mono ?_
  rintro e w' ⟨rfl, hd⟩
  exact ⟨rfl, hd⟩
end Go.Proofs.Ytkhnhkjihhhbbaa.P

namespace Go.Proofs.Ytkhnhkjihhhbbaa.P
open Go.RowKit Go.Proofs.YtkhnhkjihhhbbaaW.PrintWords Go.Proofs.YtkhnhkjihhhbbaaW.PrintLast Go.Proofs.YtkhnhkjihhhbbaaW.PrintMore
set_option linter.unusedVariables false
set_option linter.unusedSimpArgs false
theorem bestL_congr2 {r r' : Nat → Int × Int} {s : Nat} : ∀ (T : List (Nat × Int)) (i : Int) (out : Int × Int), (∀ t ∈ T, s &&& t.1 ≠ 0 → andN s t.1 ≠ 0 → r (s &&& t.1) = r' (s &&& t.1) ∧ r (andN s t.1) = r' (andN s t.1)) → bestL r s T i out = bestL r' s T i out
  | [], _, _, _ => rfl
  | t :: l, i, out, h => by
    have hl := fun x hx => h x (List.mem_cons_of_mem _ hx)
    unfold bestL
    by_cases h0 : s &&& t.1 = 0 ∨ andN s t.1 = 0
    · rw [if_pos h0, if_pos h0]; exact bestL_congr2 l _ _ hl
    · obtain ⟨e1, e2⟩ := h t List.mem_cons_self (fun e => h0 (.inl e)) (fun e => h0 (.inr e))
      rw [if_neg h0, if_neg h0, e1, e2]
      by_cases h1 : (r' (s &&& t.1)).1 < 0 ∨ (r' (andN s t.1)).1 < 0
      · rw [if_pos h1, if_pos h1]; exact bestL_congr2 l _ _ hl
      · rw [if_neg h1, if_neg h1]
        by_cases h2 : out.1 < 0 ∨ t.2 + mx (r' (s &&& t.1)).1 (r' (andN s t.1)).1 < out.1
        · rw [if_pos h2, if_pos h2]; exact bestL_congr2 l _ _ hl
        · rw [if_neg h2, if_neg h2]; exact bestL_congr2 l _ _ hl
def look (tab : List (Nat × Int × Int)) (s : Nat) : Option (Int × Int) := (tab.find? fun e => e.1 == s).map (·.2)
def checkTab (T : List (Nat × Int)) (tab : List (Nat × Int × Int)) : Bool := tab.all fun e =>
  if single e.1 = true then e.2 == (0, -1)
  else bestL (fun x => (look tab x).getD (0, 0)) e.1 T 0 (-1, -1) == e.2 && T.all fun t => (e.1 &&& t.1 == 0) || (andN e.1 t.1 == 0) || ((look tab (e.1 &&& t.1)).isSome && (look tab (andN e.1 t.1)).isSome)
theorem look_mem {tab : List (Nat × Int × Int)} {s : Nat} {c : Int × Int} (h : look tab s = some c) : (s, c) ∈ tab := by
  unfold look at h
  obtain ⟨e, he, rfl⟩ := Option.map_eq_some_iff.1 h
  have h1 := List.mem_of_find?_eq_some he
  have h2 := List.find?_some he
  have : e.1 = s := by simpa using h2
  subst this
  exact h1
theorem best_tab {T : List (Nat × Int)} {tab : List (Nat × Int × Int)} (h : checkTab T tab = true) : ∀ (s : Nat) (c : Int × Int), (s, c) ∈ tab → best T s = c := by
  intro s
  induction s using Nat.strongRecOn with
  | ind s ih =>
    intro c hc
    have h1 := List.all_eq_true.1 h _ hc
    rw [best_eq]
    simp only at h1
    by_cases hs : single s = true
    · rw [if_pos hs] at h1 ⊢
      exact (eq_of_beq h1).symm
    · rw [if_neg hs] at h1 ⊢
      obtain ⟨h2, h3⟩ := Bool.and_eq_true_iff.1 h1
      rw [← eq_of_beq h2]
      refine bestL_congr2 T 0 _ fun t ht n1 n2 => ?_
      have h4 := List.all_eq_true.1 h3 t ht
      have b1 : (s &&& t.1 == 0) = false := by simpa using n1
      have b2 : (andN s t.1 == 0) = false := by simpa using n2
      rw [b1, b2, Bool.false_or, Bool.false_or] at h4
      obtain ⟨h5, h6⟩ := Bool.and_eq_true_iff.1 h4
      obtain ⟨c1, hc1⟩ := Option.isSome_iff_exists.1 h5
      obtain ⟨c2, hc2⟩ := Option.isSome_iff_exists.1 h6
      rw [hc1, hc2, ih _ (and_lt n2) _ (look_mem hc1), ih _ (andN_lt n1) _ (look_mem hc2)]
      exact ⟨rfl, rfl⟩
/-- 0, 1, 2, up to n - 1. -/
def firstN (n : Nat) : List Int := (List.range n).map fun (i : Nat) => (i : Int)
theorem firstN_succ (n : Nat) : firstN (n + 1) = firstN n ++ [(n : Int)] := by unfold firstN; rw [List.range_succ, List.map_append]; rfl
theorem firstN_len (n : Nat) : (firstN n).length = n := by unfold firstN; simp
theorem first_l0 (n : Nat) (hn : n ≤ 1000000) : ∀ (m i k : Nat), i + m = n → m < k → thermionkit_First.l0 k (n : Int) (firstN i) (i : Int) = some (firstN n) := by
  intro m
  induction m with
  | zero =>
    intro i k h hk
    obtain ⟨k, rfl⟩ : ∃ j, k = j + 1 := ⟨k - 1, by omega⟩
    rw [thermionkit_First.l0, if_neg (by omega), show i = n by omega]
  | succ m ih =>
    intro i k h hk
    obtain ⟨k, rfl⟩ : ∃ j, k = j + 1 := ⟨k - 1, by omega⟩
    rw [thermionkit_First.l0, if_pos (by omega), if_pos (by rw [firstN_len]; omega), ← firstN_succ, Go.IntWalk.wrap64_in _ (by omega)]
    exact ih (i + 1) k (by omega) (by omega)
theorem first_f (n : Nat) (hn : n ≤ 1000000) (k : Nat) (hk : n < k) : thermionkit_First.f k (n : Int) = some (firstN n) := by
  unfold thermionkit_First.f
  exact first_l0 n hn n 0 k (by omega) hk
theorem mod_f (a m : Int) (hm : 1 ≤ m) (hm2 : m ≤ 1000000000) : thermionkit_Mod.f a m = some (a % m) := by
  unfold thermionkit_Mod.f
  rw [if_neg (by omega), if_neg (by omega)]
  have h1 := Int.emod_nonneg a (show m ≠ 0 by omega)
  have h2 := Int.emod_lt_of_pos a (show 0 < m by omega)
  have he := Int.tmod_eq_emod (a := a) (b := m)
  have hna := Int.natAbs_of_nonneg (show 0 ≤ m by omega)
  by_cases hx : 0 ≤ a ∨ m ∣ a
  · rw [if_pos hx] at he
    rw [if_neg (by omega), he]
    simp
  · rw [if_neg hx] at he
    have h3 : a % m ≠ 0 := fun h => hx (.inr (Int.dvd_of_emod_eq_zero h))
    rw [if_pos (by omega), he, Go.IntWalk.wrap64_in _ (by omega)]
    congr 1
    omega
end Go.Proofs.Ytkhnhkjihhhbbaa.P

namespace Go.Proofs.Ytkhnhkjihhhbbaa.P
open Go.RowKit Go.Proofs.YtkhnhkjihhhbbaaW.PrintWords Go.Proofs.YtkhnhkjihhhbbaaW.PrintLast Go.Proofs.YtkhnhkjihhhbbaaW.PrintMore
set_option linter.unusedVariables false
set_option linter.unusedSimpArgs false
def rowsT (n : Nat) : List S62 := (List.range (n - 1)).map fun i => ⟨firstN (i + 1), 1⟩
theorem rows_of {n : Int} {TT : List S62} {l : List Int} {c t : Int} {s : Nat} {tab : List (Nat × Int × Int)} (h1 : huntV n TT = 0) (h2 : (l.length == 0) = false) (h3 : (suspV n l).2 = 0) (h4 : setN l = s) (h5 : checkTab (testsOf TT) tab = true) (h6 : (s, c, t) ∈ tab) (h7 : 0 ≤ c) : worstV n TT l = (c, t, 0) := by
  unfold worstV
  rw [if_pos h1, if_neg (by simpa using h2), if_pos h3, h4, best_tab h5 s (c, t) h6, if_neg (by simpa using h7)]
theorem rows_1 : worstV 1 (rowsT 1) (firstN 1) = (0, -1, 0) := rows_of (s := 1) (by kernel_rfl) (by kernel_rfl) (by kernel_rfl) (by kernel_rfl) (tab := [(1, (0), (-1))]) (by decide +kernel) (by decide +kernel) (by decide)
theorem rows_2 : worstV 2 (rowsT 2) (firstN 2) = (1, 0, 0) := rows_of (s := 3) (by kernel_rfl) (by kernel_rfl) (by kernel_rfl) (by kernel_rfl) (tab := [(1, (0), (-1)), (2, (0), (-1)), (3, (1), (0))]) (by decide +kernel) (by decide +kernel) (by decide)
theorem rows_3 : worstV 3 (rowsT 3) (firstN 3) = (2, 0, 0) := rows_of (s := 7) (by kernel_rfl) (by kernel_rfl) (by kernel_rfl) (by kernel_rfl) (tab := [(1, (0), (-1)), (2, (0), (-1)), (4, (0), (-1)), (6, (1), (1)), (3, (1), (0)), (7, (2), (0))]) (by decide +kernel) (by decide +kernel) (by decide)
theorem rows_4 : worstV 4 (rowsT 4) (firstN 4) = (2, 1, 0) := rows_of (s := 15) (by kernel_rfl) (by kernel_rfl) (by kernel_rfl) (by kernel_rfl) (tab := [(1, (0), (-1)), (2, (0), (-1)), (4, (0), (-1)), (8, (0), (-1)), (12, (1), (2)), (6, (1), (1)), (14, (2), (1)), (3, (1), (0)), (7, (2), (0)), (15, (2), (1))]) (by decide +kernel) (by decide +kernel) (by decide)
theorem rows_5 : worstV 5 (rowsT 5) (firstN 5) = (3, 0, 0) := rows_of (s := 31) (by kernel_rfl) (by kernel_rfl) (by kernel_rfl) (by kernel_rfl) (tab := [(1, (0), (-1)), (2, (0), (-1)), (4, (0), (-1)), (8, (0), (-1)), (16, (0), (-1)), (24, (1), (3)), (12, (1), (2)), (28, (2), (2)), (6, (1), (1)), (14, (2), (1)), (30, (2), (2)), (3, (1), (0)), (7, (2), (0)), (15, (2), (1)), (31, (3), (0))]) (by decide +kernel) (by decide +kernel) (by decide)
theorem rows_6 : worstV 6 (rowsT 6) (firstN 6) = (3, 1, 0) := rows_of (s := 63) (by kernel_rfl) (by kernel_rfl) (by kernel_rfl) (by kernel_rfl) (tab := [(1, (0), (-1)), (2, (0), (-1)), (4, (0), (-1)), (8, (0), (-1)), (16, (0), (-1)), (32, (0), (-1)), (48, (1), (4)), (24, (1), (3)), (56, (2), (3)), (12, (1), (2)), (28, (2), (2)), (60, (2), (3)), (6, (1), (1)), (14, (2), (1)), (30, (2), (2)), (62, (3), (1)), (3, (1), (0)), (7, (2), (0)), (15, (2), (1)), (31, (3), (0)), (63, (3), (1))]) (by decide +kernel) (by decide +kernel) (by decide)
theorem rows_7 : worstV 7 (rowsT 7) (firstN 7) = (3, 2, 0) := rows_of (s := 127) (by kernel_rfl) (by kernel_rfl) (by kernel_rfl) (by kernel_rfl) (tab := [(1, (0), (-1)), (2, (0), (-1)), (4, (0), (-1)), (8, (0), (-1)), (16, (0), (-1)), (32, (0), (-1)), (64, (0), (-1)), (96, (1), (5)), (48, (1), (4)), (112, (2), (4)), (24, (1), (3)), (56, (2), (3)), (120, (2), (4)), (12, (1), (2)), (28, (2), (2)), (60, (2), (3)), (124, (3), (2)), (6, (1), (1)), (14, (2), (1)), (30, (2), (2)), (62, (3), (1)), (126, (3), (2)), (3, (1), (0)), (7, (2), (0)), (15, (2), (1)), (31, (3), (0)), (63, (3), (1)), (127, (3), (2))]) (by decide +kernel) (by decide +kernel) (by decide)
theorem rows_8 : worstV 8 (rowsT 8) (firstN 8) = (3, 3, 0) := rows_of (s := 255) (by kernel_rfl) (by kernel_rfl) (by kernel_rfl) (by kernel_rfl) (tab := [(1, (0), (-1)), (2, (0), (-1)), (4, (0), (-1)), (8, (0), (-1)), (16, (0), (-1)), (32, (0), (-1)), (64, (0), (-1)), (128, (0), (-1)), (192, (1), (6)), (96, (1), (5)), (224, (2), (5)), (48, (1), (4)), (112, (2), (4)), (240, (2), (5)), (24, (1), (3)), (56, (2), (3)), (120, (2), (4)), (248, (3), (3)), (12, (1), (2)), (28, (2), (2)), (60, (2), (3)), (124, (3), (2)), (252, (3), (3)), (6, (1), (1)), (14, (2), (1)), (30, (2), (2)), (62, (3), (1)), (126, (3), (2)), (254, (3), (3)), (3, (1), (0)), (7, (2), (0)), (15, (2), (1)), (31, (3), (0)), (63, (3), (1)), (127, (3), (2)), (255, (3), (3))]) (by decide +kernel) (by decide +kernel) (by decide)
theorem rows_9 : worstV 9 (rowsT 9) (firstN 9) = (4, 0, 0) := rows_of (s := 511) (by kernel_rfl) (by kernel_rfl) (by kernel_rfl) (by kernel_rfl) (tab := [(1, (0), (-1)), (2, (0), (-1)), (4, (0), (-1)), (8, (0), (-1)), (16, (0), (-1)), (32, (0), (-1)), (64, (0), (-1)), (128, (0), (-1)), (256, (0), (-1)), (384, (1), (7)), (192, (1), (6)), (448, (2), (6)), (96, (1), (5)), (224, (2), (5)), (480, (2), (6)), (48, (1), (4)), (112, (2), (4)), (240, (2), (5)), (496, (3), (4)), (24, (1), (3)), (56, (2), (3)), (120, (2), (4)), (248, (3), (3)), (504, (3), (4)), (12, (1), (2)), (28, (2), (2)), (60, (2), (3)), (124, (3), (2)), (252, (3), (3)), (508, (3), (4)), (6, (1), (1)), (14, (2), (1)), (30, (2), (2)), (62, (3), (1)), (126, (3), (2)), (254, (3), (3)), (510, (3), (4)), (3, (1), (0)), (7, (2), (0)), (15, (2), (1)), (31, (3), (0)), (63, (3), (1)), (127, (3), (2)), (255, (3), (3)), (511, (4), (0))]) (by decide +kernel) (by decide +kernel) (by decide)
theorem rows_10 : worstV 10 (rowsT 10) (firstN 10) = (4, 1, 0) := rows_of (s := 1023) (by kernel_rfl) (by kernel_rfl) (by kernel_rfl) (by kernel_rfl) (tab := [(1, (0), (-1)), (2, (0), (-1)), (4, (0), (-1)), (8, (0), (-1)), (16, (0), (-1)), (32, (0), (-1)), (64, (0), (-1)), (128, (0), (-1)), (256, (0), (-1)), (512, (0), (-1)), (768, (1), (8)), (384, (1), (7)), (896, (2), (7)), (192, (1), (6)), (448, (2), (6)), (960, (2), (7)), (96, (1), (5)), (224, (2), (5)), (480, (2), (6)), (992, (3), (5)), (48, (1), (4)), (112, (2), (4)), (240, (2), (5)), (496, (3), (4)), (1008, (3), (5)), (24, (1), (3)), (56, (2), (3)), (120, (2), (4)), (248, (3), (3)), (504, (3), (4)), (1016, (3), (5)), (12, (1), (2)), (28, (2), (2)), (60, (2), (3)), (124, (3), (2)), (252, (3), (3)), (508, (3), (4)), (1020, (3), (5)), (6, (1), (1)), (14, (2), (1)), (30, (2), (2)), (62, (3), (1)), (126, (3), (2)), (254, (3), (3)), (510, (3), (4)), (1022, (4), (1)), (3, (1), (0)), (7, (2), (0)), (15, (2), (1)), (31, (3), (0)), (63, (3), (1)), (127, (3), (2)), (255, (3), (3)), (511, (4), (0)), (1023, (4), (1))]) (by decide +kernel) (by decide +kernel) (by decide)
theorem rows_11 : worstV 11 (rowsT 11) (firstN 11) = (4, 2, 0) := rows_of (s := 2047) (by kernel_rfl) (by kernel_rfl) (by kernel_rfl) (by kernel_rfl) (tab := [(1, (0), (-1)), (2, (0), (-1)), (4, (0), (-1)), (8, (0), (-1)), (16, (0), (-1)), (32, (0), (-1)), (64, (0), (-1)), (128, (0), (-1)), (256, (0), (-1)), (512, (0), (-1)), (1024, (0), (-1)), (1536, (1), (9)), (768, (1), (8)), (1792, (2), (8)), (384, (1), (7)), (896, (2), (7)), (1920, (2), (8)), (192, (1), (6)), (448, (2), (6)), (960, (2), (7)), (1984, (3), (6)), (96, (1), (5)), (224, (2), (5)), (480, (2), (6)), (992, (3), (5)), (2016, (3), (6)), (48, (1), (4)), (112, (2), (4)), (240, (2), (5)), (496, (3), (4)), (1008, (3), (5)), (2032, (3), (6)), (24, (1), (3)), (56, (2), (3)), (120, (2), (4)), (248, (3), (3)), (504, (3), (4)), (1016, (3), (5)), (2040, (3), (6)), (12, (1), (2)), (28, (2), (2)), (60, (2), (3)), (124, (3), (2)), (252, (3), (3)), (508, (3), (4)), (1020, (3), (5)), (2044, (4), (2)), (6, (1), (1)), (14, (2), (1)), (30, (2), (2)), (62, (3), (1)), (126, (3), (2)), (254, (3), (3)), (510, (3), (4)), (1022, (4), (1)), (2046, (4), (2)), (3, (1), (0)), (7, (2), (0)), (15, (2), (1)), (31, (3), (0)), (63, (3), (1)), (127, (3), (2)), (255, (3), (3)), (511, (4), (0)), (1023, (4), (1)), (2047, (4), (2))]) (by decide +kernel) (by decide +kernel) (by decide)
theorem rows_12 : worstV 12 (rowsT 12) (firstN 12) = (4, 3, 0) := rows_of (s := 4095) (by kernel_rfl) (by kernel_rfl) (by kernel_rfl) (by kernel_rfl) (tab := [(1, (0), (-1)), (2, (0), (-1)), (4, (0), (-1)), (8, (0), (-1)), (16, (0), (-1)), (32, (0), (-1)), (64, (0), (-1)), (128, (0), (-1)), (256, (0), (-1)), (512, (0), (-1)), (1024, (0), (-1)), (2048, (0), (-1)), (3072, (1), (10)), (1536, (1), (9)), (3584, (2), (9)), (768, (1), (8)), (1792, (2), (8)), (3840, (2), (9)), (384, (1), (7)), (896, (2), (7)), (1920, (2), (8)), (3968, (3), (7)), (192, (1), (6)), (448, (2), (6)), (960, (2), (7)), (1984, (3), (6)), (4032, (3), (7)), (96, (1), (5)), (224, (2), (5)), (480, (2), (6)), (992, (3), (5)), (2016, (3), (6)), (4064, (3), (7)), (48, (1), (4)), (112, (2), (4)), (240, (2), (5)), (496, (3), (4)), (1008, (3), (5)), (2032, (3), (6)), (4080, (3), (7)), (24, (1), (3)), (56, (2), (3)), (120, (2), (4)), (248, (3), (3)), (504, (3), (4)), (1016, (3), (5)), (2040, (3), (6)), (4088, (4), (3)), (12, (1), (2)), (28, (2), (2)), (60, (2), (3)), (124, (3), (2)), (252, (3), (3)), (508, (3), (4)), (1020, (3), (5)), (2044, (4), (2)), (4092, (4), (3)), (6, (1), (1)), (14, (2), (1)), (30, (2), (2)), (62, (3), (1)), (126, (3), (2)), (254, (3), (3)), (510, (3), (4)), (1022, (4), (1)), (2046, (4), (2)), (4094, (4), (3)), (3, (1), (0)), (7, (2), (0)), (15, (2), (1)), (31, (3), (0)), (63, (3), (1)), (127, (3), (2)), (255, (3), (3)), (511, (4), (0)), (1023, (4), (1)), (2047, (4), (2)), (4095, (4), (3))]) (by decide +kernel) (by decide +kernel) (by decide)
theorem shl_one {j : Nat} (h : j ≤ 12) : shl .i64 1 (j : Int) = ((2 ^ j : Nat) : Int) := by
  have hp := Nat.pow_le_pow_right (by decide : 1 ≤ 2) h
  have hb : IntKind.i64.bits = 64 := rfl
  unfold shl
  rw [Int.toNat_natCast, Nat.min_eq_left (by rw [hb]; omega), Int.one_mul]
  have e : ((2 ^ j : Nat) : Int) = 2 ^ j := by simp
  rw [← e]
  obtain ⟨z, hz⟩ : ∃ z : Nat, z = 2 ^ j := ⟨_, rfl⟩
  rw [← hz] at hp ⊢
  exact Go.IntWalk.i64_in _ (by omega)
theorem rows_l0 (n : Nat) (hn : n ≤ 12) : ∀ (m i k : Nat), 1 ≤ i → i + m = n → m + n < k → thermionlaw06_PumpRows.l0 k (n : Int) (i : Int) (n : Int) ((List.range (i - 1)).map fun i => ⟨firstN (i + 1), 1⟩) = thermionlaw06_PumpRows.l1 (k - m - 1) (n : Int) 0 (n : Int) (rowsT n) := by
  intro m
  induction m with
  | zero =>
    intro i k h1 h hk
    obtain ⟨k, rfl⟩ : ∃ j, k = j + 1 := ⟨k - 1, by omega⟩
    rw [thermionlaw06_PumpRows.l0, if_neg (by omega), show i = n by omega]
    rfl
  | succ m ih =>
    intro i k h1 h hk
    obtain ⟨k, rfl⟩ : ∃ j, k = j + 1 := ⟨k - 1, by omega⟩
    rw [thermionlaw06_PumpRows.l0, if_pos (by omega), first_f i (by omega) k (by omega), Option.bind_some, if_pos (by simp; omega), Go.IntWalk.wrap64_in _ (by omega)]
    have := ih (i + 1) k (by omega) (by omega) (by omega)
    rw [show k + 1 - (m + 1) - 1 = k - m - 1 by omega, ← this]
    congr 1
    obtain ⟨i, rfl⟩ : ∃ j, i = j + 1 := ⟨i - 1, by omega⟩
    rw [show i + 1 + 1 - 1 = i + 1 by omega, show i + 1 - 1 = i by omega, List.range_succ, List.map_append]
    rfl
theorem rows_l1 (n : Nat) (hn : n ≤ 12) (c : Nat) (t : Int) (hw : worstV n (rowsT n) (firstN n) = ((c : Int), t, 0)) (hc : n ≤ 2 ^ c) (hc2 : c ≤ 12) (hlt : ∀ j, j < c → 2 ^ j < n) : ∀ (m i k : Nat), i + m = c → m + n + 1 < k → thermionlaw06_PumpRows.l1 k (n : Int) (i : Int) (n : Int) (rowsT n) = some true := by
  intro m
  induction m with
  | zero =>
    intro i k h hk
    obtain ⟨k, rfl⟩ : ∃ j, k = j + 1 := ⟨k - 1, by omega⟩
    obtain rfl : i = c := by omega
    obtain ⟨z, hz⟩ : ∃ z : Nat, z = 2 ^ i := ⟨_, rfl⟩
    rw [thermionlaw06_PumpRows.l1, if_pos (by omega), shl_one hc2]
    rw [← hz] at hc ⊢
    rw [if_neg (by omega), first_f n (by omega) k (by omega), Option.bind_some, pump_Worst.eq, Option.bind_some, hw]
    simp only [if_true, thermionlaw06_awake.eq, Option.bind_some]
  | succ m ih =>
    intro i k h hk
    obtain ⟨k, rfl⟩ : ∃ j, k = j + 1 := ⟨k - 1, by omega⟩
    have hl := hlt i (by omega)
    rw [thermionlaw06_PumpRows.l1, if_pos (by omega), shl_one (by omega)]
    obtain ⟨z, hz⟩ : ∃ z : Nat, z = 2 ^ i := ⟨_, rfl⟩
    rw [← hz] at hl ⊢
    rw [if_pos (by omega), Go.IntWalk.wrap64_in _ (by omega)]
    exact ih (i + 1) k (by omega) (by omega)
theorem rows_all (n : Nat) (h1 : 1 ≤ n) (h2 : n ≤ 12) : ∃ (c : Nat) (t : Int), worstV n (rowsT n) (firstN n) = ((c : Int), t, 0) ∧ n ≤ 2 ^ c ∧ c ≤ 12 ∧ ∀ j, j < c → 2 ^ j < n := by
  match n, h1, h2 with
  | 1, _, _ => exact ⟨0, -1, rows_1, by decide, by decide, by decide⟩
  | 2, _, _ => exact ⟨1, 0, rows_2, by decide, by decide, by decide⟩
  | 3, _, _ => exact ⟨2, 0, rows_3, by decide, by decide, by decide⟩
  | 4, _, _ => exact ⟨2, 1, rows_4, by decide, by decide, by decide⟩
  | 5, _, _ => exact ⟨3, 0, rows_5, by decide, by decide, by decide⟩
  | 6, _, _ => exact ⟨3, 1, rows_6, by decide, by decide, by decide⟩
  | 7, _, _ => exact ⟨3, 2, rows_7, by decide, by decide, by decide⟩
  | 8, _, _ => exact ⟨3, 3, rows_8, by decide, by decide, by decide⟩
  | 9, _, _ => exact ⟨4, 0, rows_9, by decide, by decide, by decide⟩
  | 10, _, _ => exact ⟨4, 1, rows_10, by decide, by decide, by decide⟩
  | 11, _, _ => exact ⟨4, 2, rows_11, by decide, by decide, by decide⟩
  | 12, _, _ => exact ⟨4, 3, rows_12, by decide, by decide, by decide⟩
  | n + 13, _, h2 => exact absurd h2 (by omega)
end Go.Proofs.Ytkhnhkjihhhbbaa.P
namespace Go.Proofs.Ytkhnhkjihhhbbaa.Pure
open Go.RowKit Go.Proofs.Ytkhnhkjihhhbbaa.P Go.Proofs.YtkhnhkjihhhbbaaW.PrintWords Go.Proofs.YtkhnhkjihhhbbaaW.PrintLast
theorem PumpRows : thermionlaw06_PumpRows.Pure := by
  intro a _
  have h0 := Int.emod_nonneg a (show (12 : Int) ≠ 0 by decide)
  have h1 := Int.emod_lt_of_pos a (show (0 : Int) < 12 by decide)
  obtain ⟨n, hn⟩ : ∃ n : Nat, (n : Int) = 1 + a % 12 := ⟨(1 + a % 12).toNat, by omega⟩
  obtain ⟨c, t, hw, hc, hc2, hlt⟩ := rows_all n (by omega) (by omega)
  refine ⟨100, ?_⟩
  unfold thermionlaw06_PumpRows.f
  rw [mod_f a 12 (by decide) (by decide), Option.bind_some, Go.IntWalk.wrap64_in _ (by omega), ← hn]
  have h2 := rows_l0 n (by omega) (n - 1) 1 100 (by omega) (by omega) (by omega)
  refine h2.trans (rows_l1 n (by omega) c t hw hc hc2 hlt c 0 _ (by omega) (by omega))
end Go.Proofs.Ytkhnhkjihhhbbaa.Pure

namespace Go.Proofs.Ytkhnhkjihhhbbaa.pumpRows
open Go.ChangeShapes Go.WideShapes Go.ChangeAt Go.RowKit
open Go.ChangeMaps (open_string shut_string)
set_option linter.unusedVariables false
theorem own : ownKnob Try.prog.godebug = none := by kernel_rfl
set_option maxRecDepth 100000 in
theorem lifted (os : Os) (started : os.Started) (H : Type) (enc : TypeId × Value → H) :
    ReturnsInHanded {} Try.checked os 5 .any (Rows.pumpRowsSpec.pre6 enc Try.prog Try.f5 Rows.pumpRowsRow.domain false) (Rows.pumpRowsSpec.post enc Try.prog Try.f5 false true false false) := by
  refine returnsInHanded_of_change_sized (C := Try.checked) own started (by kernel_rfl) Try.func5
    (ChangeSpec.witness6 (enc := enc) (C := Try.checked) false ⟨#[], #[.int .i64 0], []⟩ 8 (by kernel_rfl) (by kernel_rfl) (by kernel_rfl) (by kernel_rfl)) ?_
  intro W base args ds gs before hval0 hW hcnd hsz0 _
  have hsz : (DataW.weightsEach Try.prog (Try.f5.params.toList ++ Rows.pumpRowsSpec.plain.varTypes Try.prog) (ds ++ gs)).all (· ≤ reachBytes) = true := hsz0
  have hval : ∀ (j : Nat) t v, Try.f5.params[j]? = some t → args[j]? = some v → Value.okWide Try.prog W .any base t v := hval0
  have hW' := hW
  obtain ⟨p, q, hA0, hV, rfl, hfz, hnd⟩ := hW
  have hA : DataW.TrodAll enc Try.prog W 0 (fun _ => true) true Try.f5.params.toList args.toList ds p := hA0
  rw [Try.params5] at hA hval hsz
  obtain ⟨v0, vs0, d0, ds0, p0, q0, hargs, rfl, rfl, h0, r0⟩ := trodAll_cons hA
  obtain ⟨rfl, rfl, rfl⟩ := trodAll_nil r0
  obtain rfl : args = #[v0] := by cases args; simp_all
  obtain ⟨rfl, rfl⟩ := trodVars_none hV
  obtain ⟨a0, rfl, rfl, rfl, w0⟩ := open_int Try.underlying3 (hval 0 3 v0 rfl rfl) h0
  clear hA0 hval0 hsz0 hsz
  refine (P.thermionlaw06_PumpRows.walk Pure.PumpRows a0 W w0).mono fun e W' ⟨he, bel⟩ => ?_
  subst he
  exact ⟨_, rfl, _, _, _, [], _, [], hW', trodAll_mk1 (shut_bool Try.underlying4 _), (trodAll_cons_mk (shut_int Try.underlying3 w0) trodAll_mk0), rfl, bel.frame _, fun h => by cases h⟩
theorem over : Rows.pumpRowsRow.holds Try.pinned (OpenSpec.ofChange Rows.pumpRowsSpec) :=
  OpenClaim.holds_of_wide 5 Try.f5 rfl rfl rfl rfl rfl rfl rfl ⟨rfl, rfl, rfl, rfl, rfl⟩ rfl rfl rfl rfl rfl (by kernel_rfl) Try.func5 (by kernel_rfl)
    (of_decide_eq_true (by kernel_rfl)) (by unfold Func.isWrapper; first | (rw [if_pos (by decide +kernel)]; kernel_rfl) | (rw [if_neg (by decide +kernel)]; exact ⟨rfl, rfl⟩))
    (fun os started H enc _ => lifted os started H enc)
theorem proved : Rows.PumpRowsSaid := over
end Go.Proofs.Ytkhnhkjihhhbbaa.pumpRows
namespace Go.Proofs.Ytkhnhkjihhhbbaa
/-- The row, under a short name, for the claim. -/
theorem pumpRows_holds : Rows.PumpRowsSaid := pumpRows.proved
end Go.Proofs.Ytkhnhkjihhhbbaa

