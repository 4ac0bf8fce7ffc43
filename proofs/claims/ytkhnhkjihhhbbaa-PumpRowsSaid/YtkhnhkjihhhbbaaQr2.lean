/- In a row of suspects, each beginning of which can be tested at the cost 1, the worst case of a hunt is the least k of which 2^k is at least their number: thermionlaw06.PumpRows returns true for every input, under no condition. -/
import Derived.Test.YtkhnhkjihhhbbaaQr1
import Derived.LoopN
import Derived.Laws.Tables
import Derived.Outline
import Derived.Lib.Hide
import Derived.IntWalk
import Derived.WalkSpells
import Derived.Maps.RangeRun
import Derived.Maps.RangeWalk
namespace Go.Proofs.Ytkhnhkjihhhbbaa.P
open Go.RowKit Go.Proofs.YtkhnhkjihhhbbaaW.PrintWords Go.Proofs.YtkhnhkjihhhbbaaW.PrintLast Go.Proofs.YtkhnhkjihhhbbaaW.PrintMore
set_option linter.unusedVariables false
set_option linter.unusedSimpArgs false
/-- Whatever a simplification by the walk's rules proves. -/
theorem gs_ {p : Prop} (h : p := by first | (go_simp; done) | (go_simp; rfl) | (go_simp; simp only [Go.IntWalk.i64_left]; done)) : p := h
/-- w1 is W but for block g. -/
structure Only (g : Nat) (W w1 : World) : Prop where
  os : w1.os = W.os
  tape : w1.tape = W.tape
  output : w1.output = W.output
  size : w1.heap.size = W.heap.size
  block : ∀ k, k ≠ g → w1.heap[k]? = W.heap[k]?
theorem Only.setRow (W : World) (g : Nat) (cells : Array Value) : Only g W (W.setRow g cells) := by
  refine ⟨rfl, rfl, rfl, by simp [World.setRow], fun k hk => ?_⟩
  simp [World.setRow, Array.getElem?_modify, Ne.symm hk]
theorem Only.setCell (W : World) (g i : Nat) (u : Value) : Only g W (W.setCell ⟨g, i, none⟩ u) := by
  refine ⟨rfl, rfl, rfl, by simp [World.setCell], fun k hk => Below.heap_setCell W ⟨g, i, none⟩ u k hk⟩
theorem Only.below {B g : Nat} {w W w1 : World} (h : Only g W w1) (hB : Below B w W) (hg : B ≤ g) : Below B w w1 :=
  ⟨h.os.trans hB.os, h.tape.trans hB.tape, h.output.trans hB.output, by rw [h.size]; exact hB.size, fun i hi => (h.block i (by omega)).trans (hB.block i hi)⟩
theorem Only.blk {g k : Nat} {W w1 : World} {o : Obj} (h : Only g W w1) (hb : W.heap[k]? = some o) (hne : k ≠ g) : w1.heap[k]? = some o := (h.block k hne).trans hb
theorem bel_r {n : Nat} {w W W' : World} (h : Aside0 (Below n w W)) (h1 : W'.os = W.os := by exact rfl) (h2 : W'.tape = W.tape := by exact rfl) (h3 : W'.output = W.output := by exact rfl) (h4 : W'.heap = W.heap := by exact rfl) : Below n w W' := ⟨h1.trans h.out.os, h2.trans h.out.tape, h3.trans h.out.output, by rw [h4]; exact h.out.size, fun k hk => by rw [h4]; exact h.out.block k hk⟩
theorem bel_b {w W W' w2 : World} (hb : Below W'.heap.size W' w2) (h : Aside0 (Below w.heap.size w W)) (h1 : W'.os = W.os := by exact rfl) (h2 : W'.tape = W.tape := by exact rfl) (h3 : W'.output = W.output := by exact rfl) (h4 : W'.heap = W.heap := by exact rfl) : Aside0 (Below w.heap.size w w2) := ⟨below_step (bel_r h h1 h2 h3 h4) hb⟩
theorem bel_o {n g : Nat} {w W W' w2 : World} (ho : Only g W' w2) (h : Aside0 (Below n w W)) (hg : Aside0 (n ≤ g)) (h1 : W'.os = W.os := by exact rfl) (h2 : W'.tape = W.tape := by exact rfl) (h3 : W'.output = W.output := by exact rfl) (h4 : W'.heap = W.heap := by exact rfl) : Aside0 (Below n w w2) := ⟨ho.below (bel_r h h1 h2 h3 h4) hg.out⟩
theorem blk_b {g : Nat} {o : Obj} {W W' w2 : World} (hb : Below W'.heap.size W' w2) (h : Aside0 (W.heap[g]? = some o)) (h4 : W'.heap = W.heap := by exact rfl) : Aside0 (w2.heap[g]? = some o) := ⟨blk_below (by rw [h4]; exact h.out) hb⟩
theorem blk_o {g k : Nat} {o : Obj} {W W' w2 : World} (ho : Only g W' w2) (h : Aside0 (W.heap[k]? = some o)) (hne : k ≠ g) (h4 : W'.heap = W.heap := by exact rfl) : Aside0 (w2.heap[k]? = some o) := ⟨ho.blk (by rw [h4]; exact h.out) hne⟩
theorem ne_new {g k : Nat} {o : Obj} {W W' : World} (h : Aside0 (W.heap[k]? = some o)) (hg : g = W'.heap.size) (h4 : W'.heap = W.heap := by exact rfl) : Aside0 (k ≠ g) := ⟨by rw [hg, h4]; exact Nat.ne_of_lt (blk_lt h.out)⟩
theorem ge_new {g : Nat} {w W W' : World} (h : Aside0 (Below w.heap.size w W)) (hg : g = W'.heap.size) (h4 : W'.heap = W.heap := by exact rfl) : Aside0 (w.heap.size ≤ g) := ⟨by rw [hg, h4]; exact h.out.size⟩
theorem R_r {α : Type} {d : Kd α} {e n : Nat} {ok : Nat → Prop} {v : Value} {l : List α} {W W' : World} (h : Aside0 (Kd.R d e W n ok v l)) (h4 : W'.heap = W.heap := by exact rfl) : Kd.R d e W' n ok v l := Kd.R_step h.out (fun k _ _ => by rw [h4])
theorem cells1 {w : World} {g : Nat} {v0 : Value} {t : TypeId} (h : w.heap[g]? = some (.cells #[v0] t (0, 0))) : w.cell? ⟨g, 0, none⟩ = some v0 := (blk_cell h 0).trans rfl
theorem cells2 {w : World} {g : Nat} {v0 v1 : Value} {t : TypeId} (h : w.heap[g]? = some (.cells #[v0, v1] t (0, 0))) : w.cell? ⟨g, 0, none⟩ = some v0 ∧ w.cell? ⟨g, 1, none⟩ = some v1 := ⟨(blk_cell h 0).trans rfl, (blk_cell h 1).trans rfl⟩
theorem cells3 {w : World} {g : Nat} {v0 v1 v2 : Value} {t : TypeId} (h : w.heap[g]? = some (.cells #[v0, v1, v2] t (0, 0))) : w.cell? ⟨g, 0, none⟩ = some v0 ∧ w.cell? ⟨g, 1, none⟩ = some v1 ∧ w.cell? ⟨g, 2, none⟩ = some v2 := ⟨(blk_cell h 0).trans rfl, (blk_cell h 1).trans rfl, (blk_cell h 2).trans rfl⟩
theorem cells4 {w : World} {g : Nat} {v0 v1 v2 v3 : Value} {t : TypeId} (h : w.heap[g]? = some (.cells #[v0, v1, v2, v3] t (0, 0))) : w.cell? ⟨g, 0, none⟩ = some v0 ∧ w.cell? ⟨g, 1, none⟩ = some v1 ∧ w.cell? ⟨g, 2, none⟩ = some v2 ∧ w.cell? ⟨g, 3, none⟩ = some v3 := ⟨(blk_cell h 0).trans rfl, (blk_cell h 1).trans rfl, (blk_cell h 2).trans rfl, (blk_cell h 3).trans rfl⟩
theorem cells5 {w : World} {g : Nat} {v0 v1 v2 v3 v4 : Value} {t : TypeId} (h : w.heap[g]? = some (.cells #[v0, v1, v2, v3, v4] t (0, 0))) : w.cell? ⟨g, 0, none⟩ = some v0 ∧ w.cell? ⟨g, 1, none⟩ = some v1 ∧ w.cell? ⟨g, 2, none⟩ = some v2 ∧ w.cell? ⟨g, 3, none⟩ = some v3 ∧ w.cell? ⟨g, 4, none⟩ = some v4 := ⟨(blk_cell h 0).trans rfl, (blk_cell h 1).trans rfl, (blk_cell h 2).trans rfl, (blk_cell h 3).trans rfl, (blk_cell h 4).trans rfl⟩
theorem cells6 {w : World} {g : Nat} {v0 v1 v2 v3 v4 v5 : Value} {t : TypeId} (h : w.heap[g]? = some (.cells #[v0, v1, v2, v3, v4, v5] t (0, 0))) : w.cell? ⟨g, 0, none⟩ = some v0 ∧ w.cell? ⟨g, 1, none⟩ = some v1 ∧ w.cell? ⟨g, 2, none⟩ = some v2 ∧ w.cell? ⟨g, 3, none⟩ = some v3 ∧ w.cell? ⟨g, 4, none⟩ = some v4 ∧ w.cell? ⟨g, 5, none⟩ = some v5 := ⟨(blk_cell h 0).trans rfl, (blk_cell h 1).trans rfl, (blk_cell h 2).trans rfl, (blk_cell h 3).trans rfl, (blk_cell h 4).trans rfl, (blk_cell h 5).trans rfl⟩
theorem cells10 {w : World} {g : Nat} {v0 v1 v2 v3 v4 v5 v6 v7 v8 v9 : Value} {t : TypeId} (h : w.heap[g]? = some (.cells #[v0, v1, v2, v3, v4, v5, v6, v7, v8, v9] t (0, 0))) : w.cell? ⟨g, 0, none⟩ = some v0 ∧ w.cell? ⟨g, 1, none⟩ = some v1 ∧ w.cell? ⟨g, 2, none⟩ = some v2 ∧ w.cell? ⟨g, 3, none⟩ = some v3 ∧ w.cell? ⟨g, 4, none⟩ = some v4 ∧ w.cell? ⟨g, 5, none⟩ = some v5 ∧ w.cell? ⟨g, 6, none⟩ = some v6 ∧ w.cell? ⟨g, 7, none⟩ = some v7 ∧ w.cell? ⟨g, 8, none⟩ = some v8 ∧ w.cell? ⟨g, 9, none⟩ = some v9 := ⟨(blk_cell h 0).trans rfl, (blk_cell h 1).trans rfl, (blk_cell h 2).trans rfl, (blk_cell h 3).trans rfl, (blk_cell h 4).trans rfl, (blk_cell h 5).trans rfl, (blk_cell h 6).trans rfl, (blk_cell h 7).trans rfl, (blk_cell h 8).trans rfl, (blk_cell h 9).trans rfl⟩
section
variable {P : Program} {ops : Array Oper} {rest : List Oper} {o : Oper} {a : Act} {Q : Exit → Act → World → Prop}
theorem row_event {W : World} (hgd : o.guard = none) (ty : TypeId) (p : Tmp) (v : Operand) (ho : o.op = .store ty (.tmp p) v) (hN : o.dst = none)
    (g : Nat) (cells : Array Value) (hx : a.eval (.tmp p) = .pointer (some ⟨g, 0, none⟩)) (hy : a.eval v = .agg cells)
    {t : TypeId} {old : Array Value} (hg : W.heap[g]? = some (.cells old t (0, 0))) (hi : (P.info? ty).map (·.size) = some cells.size)
    (hold : old.size = cells.size) (h1 : cells.all (·.oneCell') = true)
    (h : ∀ w1, w1.heap[g]? = some (.cells cells t (0, 0)) → Only g W w1 → wpList P ops Q rest a w1) : wpList P ops Q (o :: rest) a W := by
  refine wpList_store_row hgd ty (.tmp p) v ho g cells hx hy t old hg hi hold h1 ?_
  have hput : a.put o.dst undef = a := by rw [hN]; rfl
  rw [hput]
  refine h _ ?_ (Only.setRow W g cells)
  simp [World.setRow, Array.getElem?_modify, hg]
theorem cell_event {W : World} (hgd : o.guard = none) (ty : TypeId) (p : Tmp) (v : Operand) (ho : o.op = .store ty (.tmp p) v) (hN : o.dst = none)
    (g i : Nat) (u : Value) (hx : a.eval (.tmp p) = .pointer (some ⟨g, i, none⟩)) (hy : a.eval v = u) (hu : u.cells = #[u])
    {t : TypeId} {old cells : Array Value} (hg : W.heap[g]? = some (.cells old t (0, 0))) (hi : (P.info? ty).map (·.size) = some 1)
    (hold : i < old.size) (h1 : u.oneCell' = true) (hc : old.setIfInBounds i u = cells)
    (h : ∀ w1, w1.heap[g]? = some (.cells cells t (0, 0)) → Only g W w1 → wpList P ops Q rest a w1) : wpList P ops Q (o :: rest) a W := by
  have hrun : (execOp a.eval o).run P W = .ok .skip (W.setCell ⟨g, i, none⟩ u) := by
    have h0 := run_store_run (P := P) (w := W) (g := g) (o := i) (e := t) (cur := old) ty u [u] hg (by rw [hu]) (by simpa using hi) (by simp; omega) (by simpa using h1)
    unfold execOp
    simp only [ho, hx, hy, Sem.run_bind, h0, Result.andThen_ok]
    rfl
  refine store_event hgd ho hN hrun ?_
  rintro w1 rfl
  exact h _ (hc ▸ blk_set hg i u) (Only.setCell W g i u)
/-- The greatest of three whole numbers. -/
def mx3 (x y z : Int) : Int := mx (mx x y) z
theorem max3_event {W : World} (hgd : o.guard = none) (x y z : Operand) (ts : Array TypeId) (ho : o.op = .call { callee := .builtin .max, args := #[x, y, z], argTypes := ts })
    (i j k : Int) (hx : a.eval x = .int .i64 i) (hy : a.eval y = .int .i64 j) (hz : a.eval z = .int .i64 k)
    (h : wpList P ops Q rest (a.put o.dst (.int .i64 (mx3 i j k))) W) : wpList P ops Q (o :: rest) a W := by
  refine Kd.event_run hgd (v := .int .i64 (mx3 i j k)) (w1 := W) ?_ h
  unfold execOp
  simp [ho, hx, hy, hz, resolve, invoke, Builtin.max_, Builtin.max2, mx3, mx, builtin]
  rfl
/-- A call of a function value that lies in place t. -/
theorem gate_value {t : Tmp} {xs : Array Operand} {ts : Array TypeId} {W : World} (_ho : o.op = .call { callee := .value (.tmp t), args := xs, argTypes := ts }) (h : wpList P ops Q (o :: rest) a W) : wpList P ops Q (o :: rest) a W := h
theorem enters_value {oi : Oper} {w : World} {f : FuncId} {fn : Func} {t : Tmp} {first cap : Array Value} {xs : Array Operand} {ts : Array TypeId} (hf : P.funcs[f]? = some fn) (hname : (fn.name == "runtime.NumGoroutine") = false) (hb : fn.body.isSome = true) (args : Array Value)
    (hop : oi.op = .call { callee := .value (.tmp t), args := xs, argTypes := ts }) (hv : a.eval (.tmp t) = .func (.func f) first cap) (hargs : first ++ xs.map a.eval ++ cap = args) : (execOp a.eval oi).run P w = .ok (.enter f args) w := by
  have he := enters_ hf hname hb args w
  unfold execOp
  simp [hop, resolve, Deferred.ofValue, invoke, hv]
  simp only [Array.append_assoc] at hargs ⊢
  rw [hargs, he]
theorem goesV_ {oi : Oper} {w : World} (N : Option Tmp) (hd : oi.dst = N) (hg : oi.guard = none) {f : FuncId} {fn : Func} {t : Tmp} {first cap : Array Value} {xs : Array Operand} {ts : Array TypeId} (hf : P.funcs[f]? = some fn) (hname : (fn.name == "runtime.NumGoroutine") = false) (hb : fn.body.isSome = true) (args : Array Value)
    (hop : oi.op = .call { callee := .value (.tmp t), args := xs, argTypes := ts }) (hv : a.eval (.tmp t) = .func (.func f) first cap) (hargs : first ++ xs.map a.eval ++ cap = args)
    (h : Calls P f args w fun e w' => ∃ v, e = .returned v ∧ wpList P ops Q rest (a.put N v) w') : wpList P ops Q (oi :: rest) a w := by
  refine wpList_plain hg fun K hK => ?_
  have hrun := enters_value (w := w) hf hname hb args hop hv hargs
  unfold Oper.wp
  rw [hrun, Oper.upon_enter]
  refine h.mono fun e w'' hh => ?_
  obtain ⟨v, rfl, hk⟩ := hh
  subst hd
  exact hK _ _ hk
theorem box_ev {W : World} {N : Tmp} {cs : Array Value} {t : TypeId} (hgd : o.guard = none := by exact rfl) (hd : o.dst = some N := by exact rfl)
    (hrun : (execOp a.eval o).run P W = .ok (.value (.pointer (some ⟨W.heap.size, 0, none⟩))) (W.alloc (.cells cs t (0, 0))) := by first | (go_simp; done) | (go_simp; rfl))
    (h : ∀ g, g = W.heap.size → ∀ w1, w1.heap[g]? = some (.cells cs t (0, 0)) → Below W.heap.size W w1 → wpList P ops Q rest (a.put o.dst (.pointer (some ⟨g, 0, none⟩))) w1) : wpList P ops Q (o :: rest) a W := box_event hgd hd hrun h
theorem row_ev {W : World} (g : Nat) (cells : Array Value) {t : TypeId} {old : Array Value} (hg : W.heap[g]? = some (.cells old t (0, 0))) {ty : TypeId} {p : Tmp} {v : Operand} (ho : o.op = .store ty (.tmp p) v := by exact rfl) (hgd : o.guard = none := by exact rfl) (hN : o.dst = none := by exact rfl)
    (hx : a.eval (.tmp p) = .pointer (some ⟨g, 0, none⟩) := by exact rfl) (hy : a.eval v = .agg cells := by exact rfl) (hi : (P.info? ty).map (·.size) = some cells.size := by kernel_rfl)
    (hold : old.size = cells.size := by exact rfl) (h1 : cells.all (·.oneCell') = true := by simp [Value.oneCell'])
    (h : ∀ w1, w1.heap[g]? = some (.cells cells t (0, 0)) → Only g W w1 → wpList P ops Q rest a w1) : wpList P ops Q (o :: rest) a W := row_event hgd ty p v ho hN g cells hx hy hg hi hold h1 h
theorem cell_ev {W : World} (g i : Nat) (u : Value) {t : TypeId} {old cells : Array Value} (hg : W.heap[g]? = some (.cells old t (0, 0))) {ty : TypeId} {p : Tmp} {v : Operand} (ho : o.op = .store ty (.tmp p) v := by exact rfl) (hgd : o.guard = none := by exact rfl) (hN : o.dst = none := by exact rfl)
    (hx : a.eval (.tmp p) = .pointer (some ⟨g, i, none⟩) := by exact rfl) (hy : a.eval v = u := by exact rfl) (hu : u.cells = #[u] := by exact rfl) (hi : (P.info? ty).map (·.size) = some 1 := by kernel_rfl)
    (hold : i < old.size := by first | decide | (simp; done)) (h1 : u.oneCell' = true := by first | rfl | (simp [Value.oneCell'])) (hc : old.setIfInBounds i u = cells := by exact rfl)
    (h : ∀ w1, w1.heap[g]? = some (.cells cells t (0, 0)) → Only g W w1 → wpList P ops Q rest a w1) : wpList P ops Q (o :: rest) a W := cell_event hgd ty p v ho hN g i u hx hy hu hg hi hold h1 hc h
theorem goes_c {oi : Oper} {w : World} (N : Option Tmp) {f : FuncId} {fn : Func} {ar : Array Operand} {ts : Array TypeId} {args : Array Value} {R : Ending → World → Prop} (hf : P.funcs[f]? = some fn) (con : Calls P f args w R) (hd : oi.dst = N := by exact rfl) (hg : oi.guard = none := by exact rfl)
    (hname : (fn.name == "runtime.NumGoroutine") = false := by kernel_rfl) (hb : fn.body.isSome = true := by exact rfl) (hop : oi.op = .call { callee := .value (.func f), args := ar, argTypes := ts } := by exact rfl)
    (hargs : ar.map a.eval = args := by (try simp only [List.map_toArray, List.map_cons, List.map_nil]); first | done | rfl) (h : ∀ e w', R e w' → ∃ v, e = .returned v ∧ wpList P ops Q rest (a.put N v) w') : wpList P ops Q (oi :: rest) a w :=
  goesL_ N hd hg hf hname hb args hop hargs (con.mono h)
theorem goes_v {oi : Oper} {w : World} (N : Option Tmp) {f : FuncId} {fn : Func} {t : Tmp} {first cap : Array Value} {xs : Array Operand} {ts : Array TypeId} {args : Array Value} {R : Ending → World → Prop} (hf : P.funcs[f]? = some fn) (con : Calls P f args w R) (hd : oi.dst = N := by exact rfl) (hg : oi.guard = none := by exact rfl)
    (hname : (fn.name == "runtime.NumGoroutine") = false := by kernel_rfl) (hb : fn.body.isSome = true := by exact rfl) (hop : oi.op = .call { callee := .value (.tmp t), args := xs, argTypes := ts } := by exact rfl) (hv : a.eval (.tmp t) = .func (.func f) first cap := by exact rfl)
    (hargs : first ++ xs.map a.eval ++ cap = args := by (try simp only [List.map_toArray, List.map_cons, List.map_nil]); first | done | rfl | (simp; done)) (h : ∀ e w', R e w' → ∃ v, e = .returned v ∧ wpList P ops Q rest (a.put N v) w') : wpList P ops Q (oi :: rest) a w :=
  goesV_ N hd hg hf hname hb args hop hv hargs (con.mono h)
end
end Go.Proofs.Ytkhnhkjihhhbbaa.P

namespace Go.Proofs.Ytkhnhkjihhhbbaa.P
open Go.RowKit Go.Proofs.YtkhnhkjihhhbbaaW.PrintWords Go.Proofs.YtkhnhkjihhhbbaaW.PrintLast Go.Proofs.YtkhnhkjihhhbbaaW.PrintMore
set_option linter.unusedVariables false
set_option linter.unusedSimpArgs false
def spanE (lo hi most : Int) : Int := if lo > hi then 11 else if lo < 0 then 2 else if hi > most then 2 else 0
theorem spans_any (lo hi most : Int) (w : World) : Calls Try.prog 87 #[.agg #[.int .i64 lo, .int .i64 hi], .int .i64 most] w fun e w' => e = .returned (.int .i64 (spanE lo hi most)) ∧ Below w.heap.size w w' :=
  pump_spans.calls lo hi most _ w (by unfold pump_spans.f spanE; split <;> (try split) <;> (try split) <;> rfl)
def fromB (n lo hi : Int) : Bool := decide (lo ≤ n) && decide (n ≤ hi)
theorem from_any (n lo hi : Int) (w : World) : Calls Try.prog 86 #[.int .i64 n, .int .i64 lo, .int .i64 hi] w fun e w' => e = .returned (.bool (fromB n lo hi)) ∧ Drawn0 w w' :=
  pump_from.calls n lo hi _ w (by unfold pump_from.f fromB; split <;> simp [*])
def bandsE : Option Int → List S136 → Int
  | _, [] => 0
  | p, b :: l =>
    if fromB b.f0 0 2000 = false then 2
    else if (match p with | none => false | some q => decide (b.f0 ≤ q)) = true then 11
    else if spanE b.f1.f0 b.f1.f1 1000000 ≠ 0 then spanE b.f1.f0 b.f1.f1 1000000
    else bandsE (some b.f0) l
theorem bandsE_cons (p : Option Int) (b : S136) (l : List S136) : bandsE p (b :: l) =
    if fromB b.f0 0 2000 = false then 2
    else if (match p with | none => false | some q => decide (b.f0 ≤ q)) = true then 11
    else if spanE b.f1.f0 b.f1.f1 1000000 ≠ 0 then spanE b.f1.f0 b.f1.f1 1000000
    else bandsE (some b.f0) l := by cases p <;> rfl
def vesselE (v : S36) : Int :=
  if fromB v.f0 1 1000000 = false then 2
  else if spanE v.f1.f0 v.f1.f1 1000000000 ≠ 0 then spanE v.f1.f0 v.f1.f1 1000000000
  else if spanE v.f2.f0 v.f2.f1 1000000000 ≠ 0 then spanE v.f2.f0 v.f2.f1 1000000000
  else if v.f3.length > 8 then 8
  else bandsE none v.f3
set_option maxHeartbeats 4000000 in
set_option maxRecDepth 100000 in
theorem vessel_any (v : S36) (A : Option Addr) (c : Nat) (w : World) (hr : Kd.C k136 w A v.f3.length v.f3) (hc : v.f3.length ≤ c) :
    Calls Try.prog 94 #[.agg #[.int .i64 v.f0, .int .i64 v.f1.f0, .int .i64 v.f1.f1, .int .i64 v.f2.f0, .int .i64 v.f2.f1, .slice A v.f3.length c]] w fun e w' => e = .returned (.int .i64 (vesselE v)) ∧ Below w.heap.size w w' := by
  have HR := Aside0.mk hr
  clear hr
  have HB := Aside0.mk (Below.refl w.heap.size w)
  have i0 : ∀ (a b c d : Int) (w : World), (Instr.index 184 (.agg #[.int .i64 a, .int .i64 b, .int .i64 c, .int .i64 d]) (.int .i64 0)).run Try.prog w = .ok (.agg #[.int .i64 a, .int .i64 b]) w := fun _ _ _ _ _ => by kernel_rfl
  have i1 : ∀ (a b c d : Int) (w : World), (Instr.index 184 (.agg #[.int .i64 a, .int .i64 b, .int .i64 c, .int .i64 d]) (.int .i64 1)).run Try.prog w = .ok (.agg #[.int .i64 c, .int .i64 d]) w := fun _ _ _ _ _ => by kernel_rfl
  cases hv : fromB v.f0 1 1000000
  · have HE : Aside0 (vesselE v = 2) := ⟨by unfold vesselE; rw [if_pos hv]⟩
    go_enter Try.func94, Try.ntmps94
    go_wp2_with (first | ((with_reducible refine gate_dst (N := 1) rfl ?_); go_must (refine box_ev (N := 1) (cs := #[.int .i64 v.f0, .int .i64 v.f1.f0, .int .i64 v.f1.f1, .int .i64 v.f2.f0, .int .i64 v.f2.f1, .slice A v.f3.length c]) (t := 36) (h := ?_); intro g hgg w1 hbox hb; have GEg := ge_new HB hgg; replace HB := bel_b hb HB; have Bg := Aside0.mk hbox; clear hbox; obtain ⟨cg_0, cg_1, cg_2, cg_3, cg_4, cg_5⟩ := cells6 Bg.out; (try clear hb); clear hgg)) | ((with_reducible refine gate_callee (f := 86) rfl ?_); refine goes_c (some 11) Try.func86 (from_any v.f0 1 1000000 _) (h := ?_); rintro e w2 ⟨rfl, hd_⟩; refine ⟨_, rfl, ?_⟩; have hb := Drawn0.below hd_; clear hd_; replace HB := bel_b hb HB; replace Bg := blk_b hb Bg; (try clear cg_0 cg_1 cg_2 cg_3 cg_4 cg_5); obtain ⟨cg_0, cg_1, cg_2, cg_3, cg_4, cg_5⟩ := cells6 Bg.out; (try clear hb); ))
    go_ret
    exact ⟨by rw [HE.out]; rfl, (bel_r HB)⟩
  · go_enter Try.func94, Try.ntmps94
    go_wp2_with (first | ((with_reducible refine gate_dst (N := 1) rfl ?_); go_must (refine box_ev (N := 1) (cs := #[.int .i64 v.f0, .int .i64 v.f1.f0, .int .i64 v.f1.f1, .int .i64 v.f2.f0, .int .i64 v.f2.f1, .slice A v.f3.length c]) (t := 36) (h := ?_); intro g hgg w1 hbox hb; have GEg := ge_new HB hgg; replace HB := bel_b hb HB; have Bg := Aside0.mk hbox; clear hbox; obtain ⟨cg_0, cg_1, cg_2, cg_3, cg_4, cg_5⟩ := cells6 Bg.out; (try clear hb); clear hgg)) | ((with_reducible refine gate_callee (f := 86) rfl ?_); refine goes_c (some 11) Try.func86 (from_any v.f0 1 1000000 _) (h := ?_); rintro e w2 ⟨rfl, hd_⟩; refine ⟨_, rfl, ?_⟩; have hb := Drawn0.below hd_; clear hd_; replace HB := bel_b hb HB; replace Bg := blk_b hb Bg; (try clear cg_0 cg_1 cg_2 cg_3 cg_4 cg_5); obtain ⟨cg_0, cg_1, cg_2, cg_3, cg_4, cg_5⟩ := cells6 Bg.out; (try clear hb); ))
    refine wp_loop_rounds 3 ?_
    rw [rounds_succ]
    cases h1 : spanE v.f1.f0 v.f1.f1 1000000000 == 0
    · have h1n : (spanE v.f1.f0 v.f1.f1 1000000000 != 0) = true := by simpa using h1
      go_wp2_with (first | ((with_reducible refine gate_dst (N := 4) rfl ?_); go_must (refine box_ev (N := 4) (cs := #[.int .i64 0, .int .i64 0]) (t := 32) (h := ?_); intro e1 hge1 w3 hbox hb; have GEe1 := ge_new HB hge1; have N_g_e1 := ne_new Bg hge1; replace HB := bel_b hb HB; replace Bg := blk_b hb Bg; (try clear cg_0 cg_1 cg_2 cg_3 cg_4 cg_5); obtain ⟨cg_0, cg_1, cg_2, cg_3, cg_4, cg_5⟩ := cells6 Bg.out; have Be1 := Aside0.mk hbox; clear hbox; obtain ⟨ce1_0, ce1_1⟩ := cells2 Be1.out; (try clear hb); clear hge1)) | ((with_reducible refine gate_store (t := 32) (p := 4) rfl ?_); go_must (refine row_ev e1 #[.int .i64 v.f1.f0, .int .i64 v.f1.f1] Be1.out (h := ?_); intro w4 hbox ho_; replace HB := bel_o ho_ HB GEe1; replace Bg := blk_o ho_ Bg (by first | exact N_g_e1.out | exact N_e1_g.out.symm); (try clear cg_0 cg_1 cg_2 cg_3 cg_4 cg_5); obtain ⟨cg_0, cg_1, cg_2, cg_3, cg_4, cg_5⟩ := cells6 Bg.out; replace Be1 := Aside0.mk hbox; clear hbox ho_; (try clear ce1_0 ce1_1); obtain ⟨ce1_0, ce1_1⟩ := cells2 Be1.out; )) | ((with_reducible refine gate_callee (f := 87) rfl ?_); refine goes_c (some 22) Try.func87 (spans_any v.f1.f0 v.f1.f1 1000000000 _) (h := ?_); rintro e w5 ⟨rfl, hb⟩; refine ⟨_, rfl, ?_⟩; replace HB := bel_b hb HB; replace Bg := blk_b hb Bg; (try clear cg_0 cg_1 cg_2 cg_3 cg_4 cg_5); obtain ⟨cg_0, cg_1, cg_2, cg_3, cg_4, cg_5⟩ := cells6 Bg.out; (try clear hb); ))
      go_ret
      exact ⟨by unfold vesselE; rw [if_neg (by simp [hv]), if_pos (by simpa using h1)]; rfl, (bel_r HB)⟩
    · have h1n : (spanE v.f1.f0 v.f1.f1 1000000000 != 0) = false := by simpa using h1
      go_wp2_with (first | ((with_reducible refine gate_dst (N := 4) rfl ?_); go_must (refine box_ev (N := 4) (cs := #[.int .i64 0, .int .i64 0]) (t := 32) (h := ?_); intro e1 hge1 w3 hbox hb; have GEe1 := ge_new HB hge1; have N_g_e1 := ne_new Bg hge1; replace HB := bel_b hb HB; replace Bg := blk_b hb Bg; (try clear cg_0 cg_1 cg_2 cg_3 cg_4 cg_5); obtain ⟨cg_0, cg_1, cg_2, cg_3, cg_4, cg_5⟩ := cells6 Bg.out; have Be1 := Aside0.mk hbox; clear hbox; obtain ⟨ce1_0, ce1_1⟩ := cells2 Be1.out; (try clear hb); clear hge1)) | ((with_reducible refine gate_store (t := 32) (p := 4) rfl ?_); go_must (refine row_ev e1 #[.int .i64 v.f1.f0, .int .i64 v.f1.f1] Be1.out (h := ?_); intro w4 hbox ho_; replace HB := bel_o ho_ HB GEe1; replace Bg := blk_o ho_ Bg (by first | exact N_g_e1.out | exact N_e1_g.out.symm); (try clear cg_0 cg_1 cg_2 cg_3 cg_4 cg_5); obtain ⟨cg_0, cg_1, cg_2, cg_3, cg_4, cg_5⟩ := cells6 Bg.out; replace Be1 := Aside0.mk hbox; clear hbox ho_; (try clear ce1_0 ce1_1); obtain ⟨ce1_0, ce1_1⟩ := cells2 Be1.out; )) | ((with_reducible refine gate_callee (f := 87) rfl ?_); refine goes_c (some 22) Try.func87 (spans_any v.f1.f0 v.f1.f1 1000000000 _) (h := ?_); rintro e w5 ⟨rfl, hb⟩; refine ⟨_, rfl, ?_⟩; replace HB := bel_b hb HB; replace Bg := blk_b hb Bg; (try clear cg_0 cg_1 cg_2 cg_3 cg_4 cg_5); obtain ⟨cg_0, cg_1, cg_2, cg_3, cg_4, cg_5⟩ := cells6 Bg.out; (try clear hb); ))
      rw [rounds_succ]
      cases h2 : spanE v.f2.f0 v.f2.f1 1000000000 == 0
      · have h2n : (spanE v.f2.f0 v.f2.f1 1000000000 != 0) = true := by simpa using h2
        go_wp2_with (first | ((with_reducible refine gate_dst (N := 4) rfl ?_); go_must (refine box_ev (N := 4) (cs := #[.int .i64 0, .int .i64 0]) (t := 32) (h := ?_); intro e2 hge2 w6 hbox hb; have GEe2 := ge_new HB hge2; have N_g_e2 := ne_new Bg hge2; replace HB := bel_b hb HB; replace Bg := blk_b hb Bg; (try clear cg_0 cg_1 cg_2 cg_3 cg_4 cg_5); obtain ⟨cg_0, cg_1, cg_2, cg_3, cg_4, cg_5⟩ := cells6 Bg.out; have Be2 := Aside0.mk hbox; clear hbox; obtain ⟨ce2_0, ce2_1⟩ := cells2 Be2.out; (try clear hb); clear hge2)) | ((with_reducible refine gate_store (t := 32) (p := 4) rfl ?_); go_must (refine row_ev e2 #[.int .i64 v.f2.f0, .int .i64 v.f2.f1] Be2.out (h := ?_); intro w7 hbox ho_; replace HB := bel_o ho_ HB GEe2; replace Bg := blk_o ho_ Bg (by first | exact N_g_e2.out | exact N_e2_g.out.symm); (try clear cg_0 cg_1 cg_2 cg_3 cg_4 cg_5); obtain ⟨cg_0, cg_1, cg_2, cg_3, cg_4, cg_5⟩ := cells6 Bg.out; replace Be2 := Aside0.mk hbox; clear hbox ho_; (try clear ce2_0 ce2_1); obtain ⟨ce2_0, ce2_1⟩ := cells2 Be2.out; )) | ((with_reducible refine gate_callee (f := 87) rfl ?_); refine goes_c (some 22) Try.func87 (spans_any v.f2.f0 v.f2.f1 1000000000 _) (h := ?_); rintro e w8 ⟨rfl, hb⟩; refine ⟨_, rfl, ?_⟩; replace HB := bel_b hb HB; replace Bg := blk_b hb Bg; (try clear cg_0 cg_1 cg_2 cg_3 cg_4 cg_5); obtain ⟨cg_0, cg_1, cg_2, cg_3, cg_4, cg_5⟩ := cells6 Bg.out; (try clear hb); ))
        go_ret
        exact ⟨by unfold vesselE; rw [if_neg (by simp [hv]), if_neg (by simpa using h1), if_pos (by simpa using h2)]; rfl, (bel_r HB)⟩
      · have h2n : (spanE v.f2.f0 v.f2.f1 1000000000 != 0) = false := by simpa using h2
        go_wp2_with (first | ((with_reducible refine gate_dst (N := 4) rfl ?_); go_must (refine box_ev (N := 4) (cs := #[.int .i64 0, .int .i64 0]) (t := 32) (h := ?_); intro e2 hge2 w6 hbox hb; have GEe2 := ge_new HB hge2; have N_g_e2 := ne_new Bg hge2; replace HB := bel_b hb HB; replace Bg := blk_b hb Bg; (try clear cg_0 cg_1 cg_2 cg_3 cg_4 cg_5); obtain ⟨cg_0, cg_1, cg_2, cg_3, cg_4, cg_5⟩ := cells6 Bg.out; have Be2 := Aside0.mk hbox; clear hbox; obtain ⟨ce2_0, ce2_1⟩ := cells2 Be2.out; (try clear hb); clear hge2)) | ((with_reducible refine gate_store (t := 32) (p := 4) rfl ?_); go_must (refine row_ev e2 #[.int .i64 v.f2.f0, .int .i64 v.f2.f1] Be2.out (h := ?_); intro w7 hbox ho_; replace HB := bel_o ho_ HB GEe2; replace Bg := blk_o ho_ Bg (by first | exact N_g_e2.out | exact N_e2_g.out.symm); (try clear cg_0 cg_1 cg_2 cg_3 cg_4 cg_5); obtain ⟨cg_0, cg_1, cg_2, cg_3, cg_4, cg_5⟩ := cells6 Bg.out; replace Be2 := Aside0.mk hbox; clear hbox ho_; (try clear ce2_0 ce2_1); obtain ⟨ce2_0, ce2_1⟩ := cells2 Be2.out; )) | ((with_reducible refine gate_callee (f := 87) rfl ?_); refine goes_c (some 22) Try.func87 (spans_any v.f2.f0 v.f2.f1 1000000000 _) (h := ?_); rintro e w8 ⟨rfl, hb⟩; refine ⟨_, rfl, ?_⟩; replace HB := bel_b hb HB; replace Bg := blk_b hb Bg; (try clear cg_0 cg_1 cg_2 cg_3 cg_4 cg_5); obtain ⟨cg_0, cg_1, cg_2, cg_3, cg_4, cg_5⟩ := cells6 Bg.out; (try clear hb); ))
        rw [rounds_succ]
        have HV : Aside0 (vesselE v = if v.f3.length > 8 then 8 else bandsE none v.f3) := ⟨by unfold vesselE; rw [if_neg (by simp [hv]), if_neg (by simpa using h1), if_neg (by simpa using h2)]⟩
        clear h1 h1n h2 h2n hv i0 i1
        by_cases hl : v.f3.length > 8
        · have hl' : (8 : Int) < (v.f3.length : Int) := by omega
          go_wp2
          go_ret
          exact ⟨by rw [HV.out, if_pos hl]; rfl, (bel_r HB)⟩
        have hl' : (v.f3.length : Int) ≤ 8 := by omega
        have HE : Aside0 (vesselE v = bandsE none v.f3) := ⟨by rw [HV.out, if_neg hl]⟩
        clear hl HV
        go_wp2
        go_loopg [34] (v.f3.length) (fun n v34 w' => ∃ i : Int, 0 ≤ i ∧ n = v.f3.length - i.toNat ∧ i ≤ v.f3.length ∧ v34 = .int .i64 i ∧ Aside0 (vesselE v = bandsE (if i = 0 then none else some (rd_T136 v.f3 (i - 1)).f0) (v.f3.drop i.toNat)) ∧ Aside0 (w'.heap[g]? = some (.cells #[.int .i64 v.f0, .int .i64 v.f1.f0, .int .i64 v.f1.f1, .int .i64 v.f2.f0, .int .i64 v.f2.f1, .slice A v.f3.length c] 36 (0, 0))) ∧ Aside0 (Below w.heap.size w w'))
        case atStart => exact ⟨0, by omega, by simp, by omega, rfl, ⟨by rw [HE.out]; simp⟩, Bg, HB⟩
        case round =>
          clear HE HB Bg
          clear cg_0 cg_1 cg_2 cg_3 cg_4 cg_5
          obtain ⟨i, hi0, hn, hi, rfl, HE, Bg, HB⟩ := hrel
          have Hn := Aside0.mk hn
          clear hn
          obtain ⟨cg_0, cg_1, cg_2, cg_3, cg_4, cg_5⟩ := cells6 Bg.out; 
          by_cases hi' : i < v.f3.length
          · have HA := Aside0.mk (at_T136 (Kd.C_below HR.out HB.out) i hi0 hi')
            obtain ⟨ad, had, k0, k1, k2⟩ := HA.out
            cases had
            have HD : Aside0 (v.f3.drop i.toNat = rd_T136 v.f3 i :: v.f3.drop (i + 1).toNat) := ⟨by
              rw [show (i + 1).toNat = i.toNat + 1 by omega, List.drop_eq_getElem_cons (by omega)]; unfold rd_T136; simp [List.getD_eq_getElem?_getD, List.getElem?_eq_getElem (show i.toNat < v.f3.length by omega)]⟩
            cases hf : fromB (rd_T136 v.f3 i).f0 0 2000
            · go_wp2_with (first | ((with_reducible refine gate_dst (N := 7) rfl ?_); go_must (refine box_ev (N := 7) (cs := #[.int .i64 0, .int .i64 0, .int .i64 0]) (t := 136) (h := ?_); intro b hgb w10 hbox hb; have GEb := ge_new HB hgb; have N_g_b := ne_new Bg hgb; replace HB := bel_b hb HB; replace Bg := blk_b hb Bg; (try clear cg_0 cg_1 cg_2 cg_3 cg_4 cg_5); obtain ⟨cg_0, cg_1, cg_2, cg_3, cg_4, cg_5⟩ := cells6 Bg.out; have Bb := Aside0.mk hbox; clear hbox; obtain ⟨cb_0, cb_1, cb_2⟩ := cells3 Bb.out; (try clear hb); clear hgb)) | ((with_reducible refine gate_store (t := 136) (p := 7) rfl ?_); go_must (refine row_ev b #[.int .i64 (rd_T136 v.f3 i).f0, .int .i64 (rd_T136 v.f3 i).f1.f0, .int .i64 (rd_T136 v.f3 i).f1.f1] Bb.out (h := ?_); intro w11 hbox ho_; replace HB := bel_o ho_ HB GEb; replace Bg := blk_o ho_ Bg (by first | exact N_g_b.out | exact N_b_g.out.symm); (try clear cg_0 cg_1 cg_2 cg_3 cg_4 cg_5); obtain ⟨cg_0, cg_1, cg_2, cg_3, cg_4, cg_5⟩ := cells6 Bg.out; replace Bb := Aside0.mk hbox; clear hbox ho_; (try clear cb_0 cb_1 cb_2); obtain ⟨cb_0, cb_1, cb_2⟩ := cells3 Bb.out; )) | ((with_reducible refine gate_callee (f := 86) rfl ?_); refine goes_c (some 42) Try.func86 (from_any (rd_T136 v.f3 i).f0 0 2000 _) (h := ?_); rintro e w12 ⟨rfl, hd_⟩; refine ⟨_, rfl, ?_⟩; have hb := Drawn0.below hd_; clear hd_; replace HB := bel_b hb HB; replace Bg := blk_b hb Bg; (try clear cg_0 cg_1 cg_2 cg_3 cg_4 cg_5); obtain ⟨cg_0, cg_1, cg_2, cg_3, cg_4, cg_5⟩ := cells6 Bg.out; replace Bb := blk_b hb Bb; (try clear cb_0 cb_1 cb_2); obtain ⟨cb_0, cb_1, cb_2⟩ := cells3 Bb.out; (try clear hb); ))
              go_ret
              exact ⟨by rw [HE.out, HD.out, bandsE_cons, if_pos hf]; rfl, (bel_r HB)⟩
            · have HF := Aside0.mk hf
              by_cases hi1 : 0 < i
              · go_wp2_with (first | ((with_reducible refine gate_dst (N := 7) rfl ?_); go_must (refine box_ev (N := 7) (cs := #[.int .i64 0, .int .i64 0, .int .i64 0]) (t := 136) (h := ?_); intro b hgb w10 hbox hb; have GEb := ge_new HB hgb; have N_g_b := ne_new Bg hgb; replace HB := bel_b hb HB; replace Bg := blk_b hb Bg; (try clear cg_0 cg_1 cg_2 cg_3 cg_4 cg_5); obtain ⟨cg_0, cg_1, cg_2, cg_3, cg_4, cg_5⟩ := cells6 Bg.out; have Bb := Aside0.mk hbox; clear hbox; obtain ⟨cb_0, cb_1, cb_2⟩ := cells3 Bb.out; (try clear hb); clear hgb)) | ((with_reducible refine gate_store (t := 136) (p := 7) rfl ?_); go_must (refine row_ev b #[.int .i64 (rd_T136 v.f3 i).f0, .int .i64 (rd_T136 v.f3 i).f1.f0, .int .i64 (rd_T136 v.f3 i).f1.f1] Bb.out (h := ?_); intro w11 hbox ho_; replace HB := bel_o ho_ HB GEb; replace Bg := blk_o ho_ Bg (by first | exact N_g_b.out | exact N_b_g.out.symm); (try clear cg_0 cg_1 cg_2 cg_3 cg_4 cg_5); obtain ⟨cg_0, cg_1, cg_2, cg_3, cg_4, cg_5⟩ := cells6 Bg.out; replace Bb := Aside0.mk hbox; clear hbox ho_; (try clear cb_0 cb_1 cb_2); obtain ⟨cb_0, cb_1, cb_2⟩ := cells3 Bb.out; )) | ((with_reducible refine gate_callee (f := 86) rfl ?_); refine goes_c (some 42) Try.func86 (from_any (rd_T136 v.f3 i).f0 0 2000 _) (h := ?_); rintro e w12 ⟨rfl, hd_⟩; refine ⟨_, rfl, ?_⟩; have hb := Drawn0.below hd_; clear hd_; replace HB := bel_b hb HB; replace Bg := blk_b hb Bg; (try clear cg_0 cg_1 cg_2 cg_3 cg_4 cg_5); obtain ⟨cg_0, cg_1, cg_2, cg_3, cg_4, cg_5⟩ := cells6 Bg.out; replace Bb := blk_b hb Bb; (try clear cb_0 cb_1 cb_2); obtain ⟨cb_0, cb_1, cb_2⟩ := cells3 Bb.out; (try clear hb); ))
                obtain ⟨ad2, had2, q0, _, _⟩ := at_T136 (Kd.C_below HR.out HB.out) (i - 1) (by omega) (by omega)
                cases had2
                rw [show (i - 1).toNat = i.toNat - 1 by omega] at q0
                have hd1 : decide (0 < i) = true := decide_eq_true hi1
                have s1 : IntKind.i64.wrap (i - 1) = i - 1 := IntWalk.i64_in _ (by omega)
                have s2 : (0 ≤ i - 1) = True := eq_true (by omega)
                have s2' : (1 ≤ i) = True := eq_true (by omega)
                have s3 : (i - 1 < (v.f3.length : Int)) = True := eq_true (by omega)
                go_quiet (fail)
                clear s1 s2 s2' s3 q0 hd1
                cases hq : decide ((rd_T136 v.f3 i).f0 ≤ (rd_T136 v.f3 (i - 1)).f0)
                · have hp : (match (if i = 0 then none else some (rd_T136 v.f3 (i - 1)).f0) with | none => false | some q => decide ((rd_T136 v.f3 i).f0 ≤ q)) = false := by rw [if_neg (by omega)]; exact hq
                  have HE1 : Aside0 (vesselE v = if spanE (rd_T136 v.f3 i).f1.f0 (rd_T136 v.f3 i).f1.f1 1000000 ≠ 0 then spanE (rd_T136 v.f3 i).f1.f0 (rd_T136 v.f3 i).f1.f1 1000000 else bandsE (some (rd_T136 v.f3 i).f0) (v.f3.drop (i + 1).toNat)) := ⟨by rw [HE.out, HD.out, bandsE_cons, if_neg (by simp [HF.out]), if_neg (by simp [hp])]⟩
                  clear hp
                  cases hs : spanE (rd_T136 v.f3 i).f1.f0 (rd_T136 v.f3 i).f1.f1 1000000 == 0
                  · have hsn : (spanE (rd_T136 v.f3 i).f1.f0 (rd_T136 v.f3 i).f1.f1 1000000 != 0) = true := by simpa using hs
                    have HE2 : Aside0 (vesselE v = spanE (rd_T136 v.f3 i).f1.f0 (rd_T136 v.f3 i).f1.f1 1000000) := ⟨by rw [HE1.out, if_pos (by simpa using hs)]⟩
                    go_wp2_with (first | ((with_reducible refine gate_callee (f := 87) rfl ?_); refine goes_c (some 61) Try.func87 (spans_any (rd_T136 v.f3 i).f1.f0 (rd_T136 v.f3 i).f1.f1 1000000 _) (h := ?_); rintro e w14 ⟨rfl, hb⟩; refine ⟨_, rfl, ?_⟩; replace HB := bel_b hb HB; replace Bg := blk_b hb Bg; (try clear cg_0 cg_1 cg_2 cg_3 cg_4 cg_5); obtain ⟨cg_0, cg_1, cg_2, cg_3, cg_4, cg_5⟩ := cells6 Bg.out; replace Bb := blk_b hb Bb; (try clear cb_0 cb_1 cb_2); obtain ⟨cb_0, cb_1, cb_2⟩ := cells3 Bb.out; (try clear hb); ))
                    go_ret
                    exact ⟨by rw [HE2.out]; rfl, (bel_r HB)⟩
                  · have hsn : (spanE (rd_T136 v.f3 i).f1.f0 (rd_T136 v.f3 i).f1.f1 1000000 != 0) = false := by simpa using hs
                    have HE2 : Aside0 (vesselE v = bandsE (some (rd_T136 v.f3 i).f0) (v.f3.drop (i + 1).toNat)) := ⟨by rw [HE1.out, if_neg (by simpa using hs)]⟩
                    go_wp2_with (first | ((with_reducible refine gate_callee (f := 87) rfl ?_); refine goes_c (some 61) Try.func87 (spans_any (rd_T136 v.f3 i).f1.f0 (rd_T136 v.f3 i).f1.f1 1000000 _) (h := ?_); rintro e w14 ⟨rfl, hb⟩; refine ⟨_, rfl, ?_⟩; replace HB := bel_b hb HB; replace Bg := blk_b hb Bg; (try clear cg_0 cg_1 cg_2 cg_3 cg_4 cg_5); obtain ⟨cg_0, cg_1, cg_2, cg_3, cg_4, cg_5⟩ := cells6 Bg.out; replace Bb := blk_b hb Bb; (try clear cb_0 cb_1 cb_2); obtain ⟨cb_0, cb_1, cb_2⟩ := cells3 Bb.out; (try clear hb); ))
                    go_roundg (v.f3.length - (i + 1).toNat)
                    case measure => have := Hn.out; omega
                    case rel => exact ⟨i + 1, by omega, rfl, by omega, rfl, ⟨by rw [HE2.out, if_neg (by omega), show i + 1 - 1 = i by omega]⟩, ⟨Bg.out⟩, ⟨(bel_r HB)⟩⟩
                · have hp : (match (if i = 0 then none else some (rd_T136 v.f3 (i - 1)).f0) with | none => false | some q => decide ((rd_T136 v.f3 i).f0 ≤ q)) = true := by rw [if_neg (by omega)]; exact hq
                  have HE1 : Aside0 (vesselE v = 11) := ⟨by rw [HE.out, HD.out, bandsE_cons, if_neg (by simp [HF.out]), if_pos hp]⟩
                  clear hp
                  go_wp2
                  go_ret
                  exact ⟨by rw [HE1.out]; rfl, (bel_r HB)⟩
              · have hd1 : decide (0 < i) = false := decide_eq_false hi1
                go_wp2_with (first | ((with_reducible refine gate_dst (N := 7) rfl ?_); go_must (refine box_ev (N := 7) (cs := #[.int .i64 0, .int .i64 0, .int .i64 0]) (t := 136) (h := ?_); intro b hgb w10 hbox hb; have GEb := ge_new HB hgb; have N_g_b := ne_new Bg hgb; replace HB := bel_b hb HB; replace Bg := blk_b hb Bg; (try clear cg_0 cg_1 cg_2 cg_3 cg_4 cg_5); obtain ⟨cg_0, cg_1, cg_2, cg_3, cg_4, cg_5⟩ := cells6 Bg.out; have Bb := Aside0.mk hbox; clear hbox; obtain ⟨cb_0, cb_1, cb_2⟩ := cells3 Bb.out; (try clear hb); clear hgb)) | ((with_reducible refine gate_store (t := 136) (p := 7) rfl ?_); go_must (refine row_ev b #[.int .i64 (rd_T136 v.f3 i).f0, .int .i64 (rd_T136 v.f3 i).f1.f0, .int .i64 (rd_T136 v.f3 i).f1.f1] Bb.out (h := ?_); intro w11 hbox ho_; replace HB := bel_o ho_ HB GEb; replace Bg := blk_o ho_ Bg (by first | exact N_g_b.out | exact N_b_g.out.symm); (try clear cg_0 cg_1 cg_2 cg_3 cg_4 cg_5); obtain ⟨cg_0, cg_1, cg_2, cg_3, cg_4, cg_5⟩ := cells6 Bg.out; replace Bb := Aside0.mk hbox; clear hbox ho_; (try clear cb_0 cb_1 cb_2); obtain ⟨cb_0, cb_1, cb_2⟩ := cells3 Bb.out; )) | ((with_reducible refine gate_callee (f := 86) rfl ?_); refine goes_c (some 42) Try.func86 (from_any (rd_T136 v.f3 i).f0 0 2000 _) (h := ?_); rintro e w12 ⟨rfl, hd_⟩; refine ⟨_, rfl, ?_⟩; have hb := Drawn0.below hd_; clear hd_; replace HB := bel_b hb HB; replace Bg := blk_b hb Bg; (try clear cg_0 cg_1 cg_2 cg_3 cg_4 cg_5); obtain ⟨cg_0, cg_1, cg_2, cg_3, cg_4, cg_5⟩ := cells6 Bg.out; replace Bb := blk_b hb Bb; (try clear cb_0 cb_1 cb_2); obtain ⟨cb_0, cb_1, cb_2⟩ := cells3 Bb.out; (try clear hb); ))
                go_quiet (fail)
                clear hd1
                have HE1 : Aside0 (vesselE v = if spanE (rd_T136 v.f3 i).f1.f0 (rd_T136 v.f3 i).f1.f1 1000000 ≠ 0 then spanE (rd_T136 v.f3 i).f1.f0 (rd_T136 v.f3 i).f1.f1 1000000 else bandsE (some (rd_T136 v.f3 i).f0) (v.f3.drop (i + 1).toNat)) := ⟨by rw [HE.out, HD.out, bandsE_cons, if_neg (by simp [HF.out]), if_neg (by rw [if_pos (show i = 0 by omega)]; simp)]⟩
                cases hs : spanE (rd_T136 v.f3 i).f1.f0 (rd_T136 v.f3 i).f1.f1 1000000 == 0
                · have hsn : (spanE (rd_T136 v.f3 i).f1.f0 (rd_T136 v.f3 i).f1.f1 1000000 != 0) = true := by simpa using hs
                  have HE2 : Aside0 (vesselE v = spanE (rd_T136 v.f3 i).f1.f0 (rd_T136 v.f3 i).f1.f1 1000000) := ⟨by rw [HE1.out, if_pos (by simpa using hs)]⟩
                  go_wp2_with (first | ((with_reducible refine gate_callee (f := 87) rfl ?_); refine goes_c (some 61) Try.func87 (spans_any (rd_T136 v.f3 i).f1.f0 (rd_T136 v.f3 i).f1.f1 1000000 _) (h := ?_); rintro e w14 ⟨rfl, hb⟩; refine ⟨_, rfl, ?_⟩; replace HB := bel_b hb HB; replace Bg := blk_b hb Bg; (try clear cg_0 cg_1 cg_2 cg_3 cg_4 cg_5); obtain ⟨cg_0, cg_1, cg_2, cg_3, cg_4, cg_5⟩ := cells6 Bg.out; replace Bb := blk_b hb Bb; (try clear cb_0 cb_1 cb_2); obtain ⟨cb_0, cb_1, cb_2⟩ := cells3 Bb.out; (try clear hb); ))
                  go_ret
                  exact ⟨by rw [HE2.out]; rfl, (bel_r HB)⟩
                · have hsn : (spanE (rd_T136 v.f3 i).f1.f0 (rd_T136 v.f3 i).f1.f1 1000000 != 0) = false := by simpa using hs
                  have HE2 : Aside0 (vesselE v = bandsE (some (rd_T136 v.f3 i).f0) (v.f3.drop (i + 1).toNat)) := ⟨by rw [HE1.out, if_neg (by simpa using hs)]⟩
                  go_wp2_with (first | ((with_reducible refine gate_callee (f := 87) rfl ?_); refine goes_c (some 61) Try.func87 (spans_any (rd_T136 v.f3 i).f1.f0 (rd_T136 v.f3 i).f1.f1 1000000 _) (h := ?_); rintro e w14 ⟨rfl, hb⟩; refine ⟨_, rfl, ?_⟩; replace HB := bel_b hb HB; replace Bg := blk_b hb Bg; (try clear cg_0 cg_1 cg_2 cg_3 cg_4 cg_5); obtain ⟨cg_0, cg_1, cg_2, cg_3, cg_4, cg_5⟩ := cells6 Bg.out; replace Bb := blk_b hb Bb; (try clear cb_0 cb_1 cb_2); obtain ⟨cb_0, cb_1, cb_2⟩ := cells3 Bb.out; (try clear hb); ))
                  go_roundg (v.f3.length - (i + 1).toNat)
                  case measure => have := Hn.out; omega
                  case rel => exact ⟨i + 1, by omega, rfl, by omega, rfl, ⟨by rw [HE2.out, if_neg (by omega), show i + 1 - 1 = i by omega]⟩, ⟨Bg.out⟩, ⟨(bel_r HB)⟩⟩
          · have HE1 : Aside0 (vesselE v = 0) := ⟨by rw [HE.out, List.drop_eq_nil_of_le (by omega)]; simp [bandsE]⟩
            go_wp2
            go_ret
            exact ⟨by rw [HE1.out]; rfl, (bel_r HB)⟩
end Go.Proofs.Ytkhnhkjihhhbbaa.P

namespace Go.Proofs.Ytkhnhkjihhhbbaa.P
open Go.RowKit Go.Proofs.YtkhnhkjihhhbbaaW.PrintWords Go.Proofs.YtkhnhkjihhhbbaaW.PrintLast Go.Proofs.YtkhnhkjihhhbbaaW.PrintMore
set_option linter.unusedVariables false
set_option linter.unusedSimpArgs false
def atE (n v lo hi most : Int) : Int := if fromB v 0 (n - 1) = false then 7 else spanE lo hi most
set_option maxHeartbeats 4000000 in
set_option maxRecDepth 100000 in
theorem at_any (v lo hi most : Int) (bn : Nat) (n : Int) (w : World) (h0 : 0 ≤ n) (h1 : n ≤ 140737488355328) (hbn : w.heap[bn]? = some (.cells #[.int .i64 n] 3 (0, 0))) :
    Calls Try.prog 85 #[.int .i64 v, .agg #[.int .i64 lo, .int .i64 hi], .int .i64 most, .pointer (some ⟨bn, 0, none⟩)] w fun e w' => e = .returned (.int .i64 (atE n v lo hi most)) ∧ Below w.heap.size w w' := by
  have Bbn := Aside0.mk hbn
  clear hbn
  have HB := Aside0.mk (Below.refl w.heap.size w)
  have s1 : IntKind.i64.wrap (n - 1) = n - 1 := IntWalk.i64_in _ (by omega)
  cases hv : fromB v 0 (n - 1)
  · have HE : Aside0 (atE n v lo hi most = 7) := ⟨by unfold atE; rw [if_pos hv]⟩
    go_enter Try.func85, Try.ntmps85
    have cbn_0 := cells1 Bbn.out; 
    go_wp2_with (first | ((with_reducible refine gate_dst (N := 5) rfl ?_); go_must (refine box_ev (N := 5) (cs := #[.int .i64 lo, .int .i64 hi]) (t := 32) (h := ?_); intro g hgg w1 hbox hb; have GEg := ge_new HB hgg; have N_bn_g := ne_new Bbn hgg; replace HB := bel_b hb HB; replace Bbn := blk_b hb Bbn; (try clear cbn_0); have cbn_0 := cells1 Bbn.out; have Bg := Aside0.mk hbox; clear hbox; obtain ⟨cg_0, cg_1⟩ := cells2 Bg.out; (try clear hb); clear hgg)) | ((with_reducible refine gate_callee (f := 86) rfl ?_); refine goes_c (some 11) Try.func86 (from_any v 0 (n - 1) _) (h := ?_); rintro e w2 ⟨rfl, hd_⟩; refine ⟨_, rfl, ?_⟩; have hb := Drawn0.below hd_; clear hd_; replace HB := bel_b hb HB; replace Bbn := blk_b hb Bbn; (try clear cbn_0); have cbn_0 := cells1 Bbn.out; replace Bg := blk_b hb Bg; (try clear cg_0 cg_1); obtain ⟨cg_0, cg_1⟩ := cells2 Bg.out; (try clear hb); ) | ((with_reducible refine gate_callee (f := 87) rfl ?_); refine goes_c (some 15) Try.func87 (spans_any lo hi most _) (h := ?_); rintro e w3 ⟨rfl, hb⟩; refine ⟨_, rfl, ?_⟩; replace HB := bel_b hb HB; replace Bbn := blk_b hb Bbn; (try clear cbn_0); have cbn_0 := cells1 Bbn.out; replace Bg := blk_b hb Bg; (try clear cg_0 cg_1); obtain ⟨cg_0, cg_1⟩ := cells2 Bg.out; (try clear hb); ))
    go_ret
    exact ⟨by rw [HE.out]; rfl, (bel_r HB)⟩
  · have HE : Aside0 (atE n v lo hi most = spanE lo hi most) := ⟨by unfold atE; rw [if_neg (by simp [hv])]⟩
    go_enter Try.func85, Try.ntmps85
    have cbn_0 := cells1 Bbn.out; 
    go_wp2_with (first | ((with_reducible refine gate_dst (N := 5) rfl ?_); go_must (refine box_ev (N := 5) (cs := #[.int .i64 lo, .int .i64 hi]) (t := 32) (h := ?_); intro g hgg w1 hbox hb; have GEg := ge_new HB hgg; have N_bn_g := ne_new Bbn hgg; replace HB := bel_b hb HB; replace Bbn := blk_b hb Bbn; (try clear cbn_0); have cbn_0 := cells1 Bbn.out; have Bg := Aside0.mk hbox; clear hbox; obtain ⟨cg_0, cg_1⟩ := cells2 Bg.out; (try clear hb); clear hgg)) | ((with_reducible refine gate_callee (f := 86) rfl ?_); refine goes_c (some 11) Try.func86 (from_any v 0 (n - 1) _) (h := ?_); rintro e w2 ⟨rfl, hd_⟩; refine ⟨_, rfl, ?_⟩; have hb := Drawn0.below hd_; clear hd_; replace HB := bel_b hb HB; replace Bbn := blk_b hb Bbn; (try clear cbn_0); have cbn_0 := cells1 Bbn.out; replace Bg := blk_b hb Bg; (try clear cg_0 cg_1); obtain ⟨cg_0, cg_1⟩ := cells2 Bg.out; (try clear hb); ) | ((with_reducible refine gate_callee (f := 87) rfl ?_); refine goes_c (some 15) Try.func87 (spans_any lo hi most _) (h := ?_); rintro e w3 ⟨rfl, hb⟩; refine ⟨_, rfl, ?_⟩; replace HB := bel_b hb HB; replace Bbn := blk_b hb Bbn; (try clear cbn_0); have cbn_0 := cells1 Bbn.out; replace Bg := blk_b hb Bg; (try clear cg_0 cg_1); obtain ⟨cg_0, cg_1⟩ := cells2 Bg.out; (try clear hb); ))
    go_ret
    exact ⟨by rw [HE.out]; rfl, (bel_r HB)⟩
def pipeE (n : Int) (p : S138) : Int :=
  if fromB p.f0 0 (n - 1) = false then 7 else if fromB p.f1 0 (n - 1) = false then 7 else if p.f0 = p.f1 then 9
  else if spanE p.f2.f0 p.f2.f1 1000000 ≠ 0 then spanE p.f2.f0 p.f2.f1 1000000 else spanE p.f3.f0 p.f3.f1 1000000
set_option maxHeartbeats 4000000 in
set_option maxRecDepth 100000 in
theorem pipe_any (p : S138) (bn : Nat) (n : Int) (w : World) (h0 : 0 ≤ n) (h1 : n ≤ 140737488355328) (hbn : w.heap[bn]? = some (.cells #[.int .i64 n] 3 (0, 0))) :
    Calls Try.prog 88 #[.agg #[.int .i64 p.f0, .int .i64 p.f1, .int .i64 p.f2.f0, .int .i64 p.f2.f1, .int .i64 p.f3.f0, .int .i64 p.f3.f1], .pointer (some ⟨bn, 0, none⟩)] w fun e w' => e = .returned (.int .i64 (pipeE n p)) ∧ Below w.heap.size w w' := by
  have Bbn := Aside0.mk hbn
  clear hbn
  have HB := Aside0.mk (Below.refl w.heap.size w)
  have s1 : IntKind.i64.wrap (n - 1) = n - 1 := IntWalk.i64_in _ (by omega)
  cases hv : fromB p.f0 0 (n - 1)
  · have HE : Aside0 (pipeE n p = 7) := ⟨by unfold pipeE; rw [if_pos hv]⟩
    go_enter Try.func88, Try.ntmps88
    have cbn_0 := cells1 Bbn.out; 
    go_wp2_with (first | ((with_reducible refine gate_dst (N := 2) rfl ?_); go_must (refine box_ev (N := 2) (cs := #[.int .i64 p.f0, .int .i64 p.f1, .int .i64 p.f2.f0, .int .i64 p.f2.f1, .int .i64 p.f3.f0, .int .i64 p.f3.f1]) (t := 138) (h := ?_); intro g hgg w1 hbox hb; have GEg := ge_new HB hgg; have N_bn_g := ne_new Bbn hgg; replace HB := bel_b hb HB; replace Bbn := blk_b hb Bbn; (try clear cbn_0); have cbn_0 := cells1 Bbn.out; have Bg := Aside0.mk hbox; clear hbox; obtain ⟨cg_0, cg_1, cg_2, cg_3, cg_4, cg_5⟩ := cells6 Bg.out; (try clear hb); clear hgg)) | ((with_reducible refine gate_callee (f := 86) rfl ?_); refine goes_c (some 10) Try.func86 (from_any p.f0 0 (n - 1) _) (h := ?_); rintro e w2 ⟨rfl, hd_⟩; refine ⟨_, rfl, ?_⟩; have hb := Drawn0.below hd_; clear hd_; replace HB := bel_b hb HB; replace Bbn := blk_b hb Bbn; (try clear cbn_0); have cbn_0 := cells1 Bbn.out; replace Bg := blk_b hb Bg; (try clear cg_0 cg_1 cg_2 cg_3 cg_4 cg_5); obtain ⟨cg_0, cg_1, cg_2, cg_3, cg_4, cg_5⟩ := cells6 Bg.out; (try clear hb); ) | ((with_reducible refine gate_callee (f := 86) rfl ?_); go_must (refine gate_guard (by first | rfl | (simp [Region.wanted, yielded]; done)) ?_); refine goes_c (some 17) Try.func86 (from_any p.f1 0 (n - 1) _) (h := ?_); rintro e w3 ⟨rfl, hd_⟩; refine ⟨_, rfl, ?_⟩; have hb := Drawn0.below hd_; clear hd_; replace HB := bel_b hb HB; replace Bbn := blk_b hb Bbn; (try clear cbn_0); have cbn_0 := cells1 Bbn.out; replace Bg := blk_b hb Bg; (try clear cg_0 cg_1 cg_2 cg_3 cg_4 cg_5); obtain ⟨cg_0, cg_1, cg_2, cg_3, cg_4, cg_5⟩ := cells6 Bg.out; (try clear hb); ) | ((with_reducible refine gate_callee (f := 87) rfl ?_); refine goes_c (some 28) Try.func87 (spans_any p.f2.f0 p.f2.f1 1000000 _) (h := ?_); rintro e w4 ⟨rfl, hb⟩; refine ⟨_, rfl, ?_⟩; replace HB := bel_b hb HB; replace Bbn := blk_b hb Bbn; (try clear cbn_0); have cbn_0 := cells1 Bbn.out; replace Bg := blk_b hb Bg; (try clear cg_0 cg_1 cg_2 cg_3 cg_4 cg_5); obtain ⟨cg_0, cg_1, cg_2, cg_3, cg_4, cg_5⟩ := cells6 Bg.out; (try clear hb); ) | ((with_reducible refine gate_callee (f := 87) rfl ?_); refine goes_c (some 34) Try.func87 (spans_any p.f3.f0 p.f3.f1 1000000 _) (h := ?_); rintro e w5 ⟨rfl, hb⟩; refine ⟨_, rfl, ?_⟩; replace HB := bel_b hb HB; replace Bbn := blk_b hb Bbn; (try clear cbn_0); have cbn_0 := cells1 Bbn.out; replace Bg := blk_b hb Bg; (try clear cg_0 cg_1 cg_2 cg_3 cg_4 cg_5); obtain ⟨cg_0, cg_1, cg_2, cg_3, cg_4, cg_5⟩ := cells6 Bg.out; (try clear hb); ))
    go_ret
    exact ⟨by rw [HE.out]; rfl, (bel_r HB)⟩
  have H1 := Aside0.mk hv
  cases hv2 : fromB p.f1 0 (n - 1)
  · have HE : Aside0 (pipeE n p = 7) := ⟨by unfold pipeE; rw [if_neg (by simp [hv]), if_pos hv2]⟩
    go_enter Try.func88, Try.ntmps88
    have cbn_0 := cells1 Bbn.out; 
    go_wp2_with (first | ((with_reducible refine gate_dst (N := 2) rfl ?_); go_must (refine box_ev (N := 2) (cs := #[.int .i64 p.f0, .int .i64 p.f1, .int .i64 p.f2.f0, .int .i64 p.f2.f1, .int .i64 p.f3.f0, .int .i64 p.f3.f1]) (t := 138) (h := ?_); intro g hgg w1 hbox hb; have GEg := ge_new HB hgg; have N_bn_g := ne_new Bbn hgg; replace HB := bel_b hb HB; replace Bbn := blk_b hb Bbn; (try clear cbn_0); have cbn_0 := cells1 Bbn.out; have Bg := Aside0.mk hbox; clear hbox; obtain ⟨cg_0, cg_1, cg_2, cg_3, cg_4, cg_5⟩ := cells6 Bg.out; (try clear hb); clear hgg)) | ((with_reducible refine gate_callee (f := 86) rfl ?_); refine goes_c (some 10) Try.func86 (from_any p.f0 0 (n - 1) _) (h := ?_); rintro e w2 ⟨rfl, hd_⟩; refine ⟨_, rfl, ?_⟩; have hb := Drawn0.below hd_; clear hd_; replace HB := bel_b hb HB; replace Bbn := blk_b hb Bbn; (try clear cbn_0); have cbn_0 := cells1 Bbn.out; replace Bg := blk_b hb Bg; (try clear cg_0 cg_1 cg_2 cg_3 cg_4 cg_5); obtain ⟨cg_0, cg_1, cg_2, cg_3, cg_4, cg_5⟩ := cells6 Bg.out; (try clear hb); ) | ((with_reducible refine gate_callee (f := 86) rfl ?_); go_must (refine gate_guard (by first | rfl | (simp [Region.wanted, yielded]; done)) ?_); refine goes_c (some 17) Try.func86 (from_any p.f1 0 (n - 1) _) (h := ?_); rintro e w3 ⟨rfl, hd_⟩; refine ⟨_, rfl, ?_⟩; have hb := Drawn0.below hd_; clear hd_; replace HB := bel_b hb HB; replace Bbn := blk_b hb Bbn; (try clear cbn_0); have cbn_0 := cells1 Bbn.out; replace Bg := blk_b hb Bg; (try clear cg_0 cg_1 cg_2 cg_3 cg_4 cg_5); obtain ⟨cg_0, cg_1, cg_2, cg_3, cg_4, cg_5⟩ := cells6 Bg.out; (try clear hb); ) | ((with_reducible refine gate_callee (f := 87) rfl ?_); refine goes_c (some 28) Try.func87 (spans_any p.f2.f0 p.f2.f1 1000000 _) (h := ?_); rintro e w4 ⟨rfl, hb⟩; refine ⟨_, rfl, ?_⟩; replace HB := bel_b hb HB; replace Bbn := blk_b hb Bbn; (try clear cbn_0); have cbn_0 := cells1 Bbn.out; replace Bg := blk_b hb Bg; (try clear cg_0 cg_1 cg_2 cg_3 cg_4 cg_5); obtain ⟨cg_0, cg_1, cg_2, cg_3, cg_4, cg_5⟩ := cells6 Bg.out; (try clear hb); ) | ((with_reducible refine gate_callee (f := 87) rfl ?_); refine goes_c (some 34) Try.func87 (spans_any p.f3.f0 p.f3.f1 1000000 _) (h := ?_); rintro e w5 ⟨rfl, hb⟩; refine ⟨_, rfl, ?_⟩; replace HB := bel_b hb HB; replace Bbn := blk_b hb Bbn; (try clear cbn_0); have cbn_0 := cells1 Bbn.out; replace Bg := blk_b hb Bg; (try clear cg_0 cg_1 cg_2 cg_3 cg_4 cg_5); obtain ⟨cg_0, cg_1, cg_2, cg_3, cg_4, cg_5⟩ := cells6 Bg.out; (try clear hb); ))
    go_ret
    exact ⟨by rw [HE.out]; rfl, (bel_r HB)⟩
  have H2 := Aside0.mk hv2
  by_cases he : p.f0 = p.f1
  · have HE : Aside0 (pipeE n p = 9) := ⟨by unfold pipeE; rw [if_neg (by simp [hv]), if_neg (by simp [hv2]), if_pos he]⟩
    have he1 : (p.f0 == p.f1) = true := by simpa using he
    clear he
    go_enter Try.func88, Try.ntmps88
    have cbn_0 := cells1 Bbn.out; 
    go_wp2_with (first | ((with_reducible refine gate_dst (N := 2) rfl ?_); go_must (refine box_ev (N := 2) (cs := #[.int .i64 p.f0, .int .i64 p.f1, .int .i64 p.f2.f0, .int .i64 p.f2.f1, .int .i64 p.f3.f0, .int .i64 p.f3.f1]) (t := 138) (h := ?_); intro g hgg w1 hbox hb; have GEg := ge_new HB hgg; have N_bn_g := ne_new Bbn hgg; replace HB := bel_b hb HB; replace Bbn := blk_b hb Bbn; (try clear cbn_0); have cbn_0 := cells1 Bbn.out; have Bg := Aside0.mk hbox; clear hbox; obtain ⟨cg_0, cg_1, cg_2, cg_3, cg_4, cg_5⟩ := cells6 Bg.out; (try clear hb); clear hgg)) | ((with_reducible refine gate_callee (f := 86) rfl ?_); refine goes_c (some 10) Try.func86 (from_any p.f0 0 (n - 1) _) (h := ?_); rintro e w2 ⟨rfl, hd_⟩; refine ⟨_, rfl, ?_⟩; have hb := Drawn0.below hd_; clear hd_; replace HB := bel_b hb HB; replace Bbn := blk_b hb Bbn; (try clear cbn_0); have cbn_0 := cells1 Bbn.out; replace Bg := blk_b hb Bg; (try clear cg_0 cg_1 cg_2 cg_3 cg_4 cg_5); obtain ⟨cg_0, cg_1, cg_2, cg_3, cg_4, cg_5⟩ := cells6 Bg.out; (try clear hb); ) | ((with_reducible refine gate_callee (f := 86) rfl ?_); go_must (refine gate_guard (by first | rfl | (simp [Region.wanted, yielded]; done)) ?_); refine goes_c (some 17) Try.func86 (from_any p.f1 0 (n - 1) _) (h := ?_); rintro e w3 ⟨rfl, hd_⟩; refine ⟨_, rfl, ?_⟩; have hb := Drawn0.below hd_; clear hd_; replace HB := bel_b hb HB; replace Bbn := blk_b hb Bbn; (try clear cbn_0); have cbn_0 := cells1 Bbn.out; replace Bg := blk_b hb Bg; (try clear cg_0 cg_1 cg_2 cg_3 cg_4 cg_5); obtain ⟨cg_0, cg_1, cg_2, cg_3, cg_4, cg_5⟩ := cells6 Bg.out; (try clear hb); ) | ((with_reducible refine gate_callee (f := 87) rfl ?_); refine goes_c (some 28) Try.func87 (spans_any p.f2.f0 p.f2.f1 1000000 _) (h := ?_); rintro e w4 ⟨rfl, hb⟩; refine ⟨_, rfl, ?_⟩; replace HB := bel_b hb HB; replace Bbn := blk_b hb Bbn; (try clear cbn_0); have cbn_0 := cells1 Bbn.out; replace Bg := blk_b hb Bg; (try clear cg_0 cg_1 cg_2 cg_3 cg_4 cg_5); obtain ⟨cg_0, cg_1, cg_2, cg_3, cg_4, cg_5⟩ := cells6 Bg.out; (try clear hb); ) | ((with_reducible refine gate_callee (f := 87) rfl ?_); refine goes_c (some 34) Try.func87 (spans_any p.f3.f0 p.f3.f1 1000000 _) (h := ?_); rintro e w5 ⟨rfl, hb⟩; refine ⟨_, rfl, ?_⟩; replace HB := bel_b hb HB; replace Bbn := blk_b hb Bbn; (try clear cbn_0); have cbn_0 := cells1 Bbn.out; replace Bg := blk_b hb Bg; (try clear cg_0 cg_1 cg_2 cg_3 cg_4 cg_5); obtain ⟨cg_0, cg_1, cg_2, cg_3, cg_4, cg_5⟩ := cells6 Bg.out; (try clear hb); ))
    go_ret
    exact ⟨by rw [HE.out]; rfl, (bel_r HB)⟩
  have HN := Aside0.mk he
  have he1 : (p.f0 == p.f1) = false := by simpa using he
  clear he
  cases hs : spanE p.f2.f0 p.f2.f1 1000000 == 0
  · have HE : Aside0 (pipeE n p = spanE p.f2.f0 p.f2.f1 1000000) := ⟨by unfold pipeE; rw [if_neg (by simp [hv]), if_neg (by simp [hv2]), if_neg HN.out, if_pos (by simpa using hs)]⟩
    have hsn : (spanE p.f2.f0 p.f2.f1 1000000 != 0) = true := by simpa using hs
    go_enter Try.func88, Try.ntmps88
    have cbn_0 := cells1 Bbn.out; 
    go_wp2_with (first | ((with_reducible refine gate_dst (N := 2) rfl ?_); go_must (refine box_ev (N := 2) (cs := #[.int .i64 p.f0, .int .i64 p.f1, .int .i64 p.f2.f0, .int .i64 p.f2.f1, .int .i64 p.f3.f0, .int .i64 p.f3.f1]) (t := 138) (h := ?_); intro g hgg w1 hbox hb; have GEg := ge_new HB hgg; have N_bn_g := ne_new Bbn hgg; replace HB := bel_b hb HB; replace Bbn := blk_b hb Bbn; (try clear cbn_0); have cbn_0 := cells1 Bbn.out; have Bg := Aside0.mk hbox; clear hbox; obtain ⟨cg_0, cg_1, cg_2, cg_3, cg_4, cg_5⟩ := cells6 Bg.out; (try clear hb); clear hgg)) | ((with_reducible refine gate_callee (f := 86) rfl ?_); refine goes_c (some 10) Try.func86 (from_any p.f0 0 (n - 1) _) (h := ?_); rintro e w2 ⟨rfl, hd_⟩; refine ⟨_, rfl, ?_⟩; have hb := Drawn0.below hd_; clear hd_; replace HB := bel_b hb HB; replace Bbn := blk_b hb Bbn; (try clear cbn_0); have cbn_0 := cells1 Bbn.out; replace Bg := blk_b hb Bg; (try clear cg_0 cg_1 cg_2 cg_3 cg_4 cg_5); obtain ⟨cg_0, cg_1, cg_2, cg_3, cg_4, cg_5⟩ := cells6 Bg.out; (try clear hb); ) | ((with_reducible refine gate_callee (f := 86) rfl ?_); go_must (refine gate_guard (by first | rfl | (simp [Region.wanted, yielded]; done)) ?_); refine goes_c (some 17) Try.func86 (from_any p.f1 0 (n - 1) _) (h := ?_); rintro e w3 ⟨rfl, hd_⟩; refine ⟨_, rfl, ?_⟩; have hb := Drawn0.below hd_; clear hd_; replace HB := bel_b hb HB; replace Bbn := blk_b hb Bbn; (try clear cbn_0); have cbn_0 := cells1 Bbn.out; replace Bg := blk_b hb Bg; (try clear cg_0 cg_1 cg_2 cg_3 cg_4 cg_5); obtain ⟨cg_0, cg_1, cg_2, cg_3, cg_4, cg_5⟩ := cells6 Bg.out; (try clear hb); ) | ((with_reducible refine gate_callee (f := 87) rfl ?_); refine goes_c (some 28) Try.func87 (spans_any p.f2.f0 p.f2.f1 1000000 _) (h := ?_); rintro e w4 ⟨rfl, hb⟩; refine ⟨_, rfl, ?_⟩; replace HB := bel_b hb HB; replace Bbn := blk_b hb Bbn; (try clear cbn_0); have cbn_0 := cells1 Bbn.out; replace Bg := blk_b hb Bg; (try clear cg_0 cg_1 cg_2 cg_3 cg_4 cg_5); obtain ⟨cg_0, cg_1, cg_2, cg_3, cg_4, cg_5⟩ := cells6 Bg.out; (try clear hb); ) | ((with_reducible refine gate_callee (f := 87) rfl ?_); refine goes_c (some 34) Try.func87 (spans_any p.f3.f0 p.f3.f1 1000000 _) (h := ?_); rintro e w5 ⟨rfl, hb⟩; refine ⟨_, rfl, ?_⟩; replace HB := bel_b hb HB; replace Bbn := blk_b hb Bbn; (try clear cbn_0); have cbn_0 := cells1 Bbn.out; replace Bg := blk_b hb Bg; (try clear cg_0 cg_1 cg_2 cg_3 cg_4 cg_5); obtain ⟨cg_0, cg_1, cg_2, cg_3, cg_4, cg_5⟩ := cells6 Bg.out; (try clear hb); ))
    go_ret
    exact ⟨by rw [HE.out]; rfl, (bel_r HB)⟩
  · have HE : Aside0 (pipeE n p = spanE p.f3.f0 p.f3.f1 1000000) := ⟨by unfold pipeE; rw [if_neg (by simp [hv]), if_neg (by simp [hv2]), if_neg HN.out, if_neg (by simpa using hs)]⟩
    have hsn : (spanE p.f2.f0 p.f2.f1 1000000 != 0) = false := by simpa using hs
    go_enter Try.func88, Try.ntmps88
    have cbn_0 := cells1 Bbn.out; 
    go_wp2_with (first | ((with_reducible refine gate_dst (N := 2) rfl ?_); go_must (refine box_ev (N := 2) (cs := #[.int .i64 p.f0, .int .i64 p.f1, .int .i64 p.f2.f0, .int .i64 p.f2.f1, .int .i64 p.f3.f0, .int .i64 p.f3.f1]) (t := 138) (h := ?_); intro g hgg w1 hbox hb; have GEg := ge_new HB hgg; have N_bn_g := ne_new Bbn hgg; replace HB := bel_b hb HB; replace Bbn := blk_b hb Bbn; (try clear cbn_0); have cbn_0 := cells1 Bbn.out; have Bg := Aside0.mk hbox; clear hbox; obtain ⟨cg_0, cg_1, cg_2, cg_3, cg_4, cg_5⟩ := cells6 Bg.out; (try clear hb); clear hgg)) | ((with_reducible refine gate_callee (f := 86) rfl ?_); refine goes_c (some 10) Try.func86 (from_any p.f0 0 (n - 1) _) (h := ?_); rintro e w2 ⟨rfl, hd_⟩; refine ⟨_, rfl, ?_⟩; have hb := Drawn0.below hd_; clear hd_; replace HB := bel_b hb HB; replace Bbn := blk_b hb Bbn; (try clear cbn_0); have cbn_0 := cells1 Bbn.out; replace Bg := blk_b hb Bg; (try clear cg_0 cg_1 cg_2 cg_3 cg_4 cg_5); obtain ⟨cg_0, cg_1, cg_2, cg_3, cg_4, cg_5⟩ := cells6 Bg.out; (try clear hb); ) | ((with_reducible refine gate_callee (f := 86) rfl ?_); go_must (refine gate_guard (by first | rfl | (simp [Region.wanted, yielded]; done)) ?_); refine goes_c (some 17) Try.func86 (from_any p.f1 0 (n - 1) _) (h := ?_); rintro e w3 ⟨rfl, hd_⟩; refine ⟨_, rfl, ?_⟩; have hb := Drawn0.below hd_; clear hd_; replace HB := bel_b hb HB; replace Bbn := blk_b hb Bbn; (try clear cbn_0); have cbn_0 := cells1 Bbn.out; replace Bg := blk_b hb Bg; (try clear cg_0 cg_1 cg_2 cg_3 cg_4 cg_5); obtain ⟨cg_0, cg_1, cg_2, cg_3, cg_4, cg_5⟩ := cells6 Bg.out; (try clear hb); ) | ((with_reducible refine gate_callee (f := 87) rfl ?_); refine goes_c (some 28) Try.func87 (spans_any p.f2.f0 p.f2.f1 1000000 _) (h := ?_); rintro e w4 ⟨rfl, hb⟩; refine ⟨_, rfl, ?_⟩; replace HB := bel_b hb HB; replace Bbn := blk_b hb Bbn; (try clear cbn_0); have cbn_0 := cells1 Bbn.out; replace Bg := blk_b hb Bg; (try clear cg_0 cg_1 cg_2 cg_3 cg_4 cg_5); obtain ⟨cg_0, cg_1, cg_2, cg_3, cg_4, cg_5⟩ := cells6 Bg.out; (try clear hb); ) | ((with_reducible refine gate_callee (f := 87) rfl ?_); refine goes_c (some 34) Try.func87 (spans_any p.f3.f0 p.f3.f1 1000000 _) (h := ?_); rintro e w5 ⟨rfl, hb⟩; refine ⟨_, rfl, ?_⟩; replace HB := bel_b hb HB; replace Bbn := blk_b hb Bbn; (try clear cbn_0); have cbn_0 := cells1 Bbn.out; replace Bg := blk_b hb Bg; (try clear cg_0 cg_1 cg_2 cg_3 cg_4 cg_5); obtain ⟨cg_0, cg_1, cg_2, cg_3, cg_4, cg_5⟩ := cells6 Bg.out; (try clear hb); ))
    go_ret
    exact ⟨by rw [HE.out]; rfl, (bel_r HB)⟩
def pumpE (n : Int) (x : S112) : Int := atE n x.f0 x.f1.f0 x.f1.f1 1000000
set_option maxHeartbeats 4000000 in
set_option maxRecDepth 100000 in
theorem pump_any (x : S112) (ba bn : Nat) (n : Int) (w : World) (h0 : 0 ≤ n) (h1 : n ≤ 140737488355328) (hbn : w.heap[bn]? = some (.cells #[.int .i64 n] 3 (0, 0))) (hba : w.heap[ba]? = some (.cells #[.func (.func 85) #[] #[.pointer (some ⟨bn, 0, none⟩)]] 146 (0, 0))) :
    Calls Try.prog 89 #[.agg #[.int .i64 x.f0, .int .i64 x.f1.f0, .int .i64 x.f1.f1], .pointer (some ⟨ba, 0, none⟩)] w fun e w' => e = .returned (.int .i64 (pumpE n x)) ∧ Below w.heap.size w w' := by
  have Bbn := Aside0.mk hbn
  have Bba := Aside0.mk hba
  clear hbn hba
  have hn0 := Aside0.mk h0
  have hn1 := Aside0.mk h1
  clear h0 h1
  have HB := Aside0.mk (Below.refl w.heap.size w)
  have hvf : (Instr.makeFunc : Fn → _) = Instr.makeFunc := rfl
  clear hvf
  go_enter Try.func89, Try.ntmps89
  have cba_0 := cells1 Bba.out; have cbn_0 := cells1 Bbn.out; 
  go_wp2_with (first | ((with_reducible refine gate_dst (N := 2) rfl ?_); go_must (refine box_ev (N := 2) (cs := #[.int .i64 x.f0, .int .i64 x.f1.f0, .int .i64 x.f1.f1]) (t := 112) (h := ?_); intro g hgg w1 hbox hb; have GEg := ge_new HB hgg; have N_bn_g := ne_new Bbn hgg; have N_ba_g := ne_new Bba hgg; replace HB := bel_b hb HB; replace Bbn := blk_b hb Bbn; (try clear cbn_0); have cbn_0 := cells1 Bbn.out; replace Bba := blk_b hb Bba; (try clear cba_0); have cba_0 := cells1 Bba.out; have Bg := Aside0.mk hbox; clear hbox; obtain ⟨cg_0, cg_1, cg_2⟩ := cells3 Bg.out; (try clear hb); clear hgg)) | ((with_reducible refine gate_value (t := 4) rfl ?_); refine goes_v (some 9) Try.func85 (at_any x.f0 x.f1.f0 x.f1.f1 1000000 bn n _ hn0.out hn1.out Bbn.out) (h := ?_); rintro e w2 ⟨rfl, hb⟩; refine ⟨_, rfl, ?_⟩; replace HB := bel_b hb HB; replace Bbn := blk_b hb Bbn; (try clear cbn_0); have cbn_0 := cells1 Bbn.out; replace Bba := blk_b hb Bba; (try clear cba_0); have cba_0 := cells1 Bba.out; replace Bg := blk_b hb Bg; (try clear cg_0 cg_1 cg_2); obtain ⟨cg_0, cg_1, cg_2⟩ := cells3 Bg.out; (try clear hb); ))
  go_ret
  exact ⟨rfl, (bel_r HB)⟩
def leakE (n : Int) (x : S140) : Int := atE n x.f0 x.f1.f0 x.f1.f1 100000
set_option maxHeartbeats 4000000 in
set_option maxRecDepth 100000 in
theorem leak_any (x : S140) (ba bn : Nat) (n : Int) (w : World) (h0 : 0 ≤ n) (h1 : n ≤ 140737488355328) (hbn : w.heap[bn]? = some (.cells #[.int .i64 n] 3 (0, 0))) (hba : w.heap[ba]? = some (.cells #[.func (.func 85) #[] #[.pointer (some ⟨bn, 0, none⟩)]] 146 (0, 0))) :
    Calls Try.prog 90 #[.agg #[.int .i64 x.f0, .int .i64 x.f1.f0, .int .i64 x.f1.f1], .pointer (some ⟨ba, 0, none⟩)] w fun e w' => e = .returned (.int .i64 (leakE n x)) ∧ Below w.heap.size w w' := by
  have Bbn := Aside0.mk hbn
  have Bba := Aside0.mk hba
  clear hbn hba
  have hn0 := Aside0.mk h0
  have hn1 := Aside0.mk h1
  clear h0 h1
  have HB := Aside0.mk (Below.refl w.heap.size w)
  have hvf : (Instr.makeFunc : Fn → _) = Instr.makeFunc := rfl
  clear hvf
  go_enter Try.func90, Try.ntmps90
  have cba_0 := cells1 Bba.out; have cbn_0 := cells1 Bbn.out; 
  go_wp2_with (first | ((with_reducible refine gate_dst (N := 2) rfl ?_); go_must (refine box_ev (N := 2) (cs := #[.int .i64 x.f0, .int .i64 x.f1.f0, .int .i64 x.f1.f1]) (t := 140) (h := ?_); intro g hgg w1 hbox hb; have GEg := ge_new HB hgg; have N_bn_g := ne_new Bbn hgg; have N_ba_g := ne_new Bba hgg; replace HB := bel_b hb HB; replace Bbn := blk_b hb Bbn; (try clear cbn_0); have cbn_0 := cells1 Bbn.out; replace Bba := blk_b hb Bba; (try clear cba_0); have cba_0 := cells1 Bba.out; have Bg := Aside0.mk hbox; clear hbox; obtain ⟨cg_0, cg_1, cg_2⟩ := cells3 Bg.out; (try clear hb); clear hgg)) | ((with_reducible refine gate_value (t := 4) rfl ?_); refine goes_v (some 9) Try.func85 (at_any x.f0 x.f1.f0 x.f1.f1 100000 bn n _ hn0.out hn1.out Bbn.out) (h := ?_); rintro e w2 ⟨rfl, hb⟩; refine ⟨_, rfl, ?_⟩; replace HB := bel_b hb HB; replace Bbn := blk_b hb Bbn; (try clear cbn_0); have cbn_0 := cells1 Bbn.out; replace Bba := blk_b hb Bba; (try clear cba_0); have cba_0 := cells1 Bba.out; replace Bg := blk_b hb Bg; (try clear cg_0 cg_1 cg_2); obtain ⟨cg_0, cg_1, cg_2⟩ := cells3 Bg.out; (try clear hb); ))
  go_ret
  exact ⟨rfl, (bel_r HB)⟩
def getterE (n : Int) (x : S142) : Int := if atE n x.f0 x.f1.f0 x.f1.f1 1000000 ≠ 0 then atE n x.f0 x.f1.f0 x.f1.f1 1000000 else spanE x.f2.f0 x.f2.f1 1000000000
set_option maxHeartbeats 4000000 in
set_option maxRecDepth 100000 in
theorem getter_any (x : S142) (ba bn : Nat) (n : Int) (w : World) (h0 : 0 ≤ n) (h1 : n ≤ 140737488355328) (hbn : w.heap[bn]? = some (.cells #[.int .i64 n] 3 (0, 0))) (hba : w.heap[ba]? = some (.cells #[.func (.func 85) #[] #[.pointer (some ⟨bn, 0, none⟩)]] 146 (0, 0))) :
    Calls Try.prog 91 #[.agg #[.int .i64 x.f0, .int .i64 x.f1.f0, .int .i64 x.f1.f1, .int .i64 x.f2.f0, .int .i64 x.f2.f1], .pointer (some ⟨ba, 0, none⟩)] w fun e w' => e = .returned (.int .i64 (getterE n x)) ∧ Below w.heap.size w w' := by
  have Bbn := Aside0.mk hbn
  have Bba := Aside0.mk hba
  clear hbn hba
  have hn0 := Aside0.mk h0
  have hn1 := Aside0.mk h1
  clear h0 h1
  have HB := Aside0.mk (Below.refl w.heap.size w)
  have hvf : (Instr.makeFunc : Fn → _) = Instr.makeFunc := rfl
  clear hvf
  cases hs : atE n x.f0 x.f1.f0 x.f1.f1 1000000 == 0
  · have HE : Aside0 (getterE n x = atE n x.f0 x.f1.f0 x.f1.f1 1000000) := ⟨by unfold getterE; rw [if_pos (by simpa using hs)]⟩
    have hsn : (atE n x.f0 x.f1.f0 x.f1.f1 1000000 != 0) = true := by simpa using hs
    go_enter Try.func91, Try.ntmps91
    have cba_0 := cells1 Bba.out; have cbn_0 := cells1 Bbn.out; 
    go_wp2_with (first | ((with_reducible refine gate_dst (N := 2) rfl ?_); go_must (refine box_ev (N := 2) (cs := #[.int .i64 x.f0, .int .i64 x.f1.f0, .int .i64 x.f1.f1, .int .i64 x.f2.f0, .int .i64 x.f2.f1]) (t := 142) (h := ?_); intro g hgg w1 hbox hb; have GEg := ge_new HB hgg; have N_bn_g := ne_new Bbn hgg; have N_ba_g := ne_new Bba hgg; replace HB := bel_b hb HB; replace Bbn := blk_b hb Bbn; (try clear cbn_0); have cbn_0 := cells1 Bbn.out; replace Bba := blk_b hb Bba; (try clear cba_0); have cba_0 := cells1 Bba.out; have Bg := Aside0.mk hbox; clear hbox; obtain ⟨cg_0, cg_1, cg_2, cg_3, cg_4⟩ := cells5 Bg.out; (try clear hb); clear hgg)) | ((with_reducible refine gate_value (t := 5) rfl ?_); refine goes_v (some 10) Try.func85 (at_any x.f0 x.f1.f0 x.f1.f1 1000000 bn n _ hn0.out hn1.out Bbn.out) (h := ?_); rintro e w2 ⟨rfl, hb⟩; refine ⟨_, rfl, ?_⟩; replace HB := bel_b hb HB; replace Bbn := blk_b hb Bbn; (try clear cbn_0); have cbn_0 := cells1 Bbn.out; replace Bba := blk_b hb Bba; (try clear cba_0); have cba_0 := cells1 Bba.out; replace Bg := blk_b hb Bg; (try clear cg_0 cg_1 cg_2 cg_3 cg_4); obtain ⟨cg_0, cg_1, cg_2, cg_3, cg_4⟩ := cells5 Bg.out; (try clear hb); ) | ((with_reducible refine gate_callee (f := 87) rfl ?_); refine goes_c (some 16) Try.func87 (spans_any x.f2.f0 x.f2.f1 1000000000 _) (h := ?_); rintro e w3 ⟨rfl, hb⟩; refine ⟨_, rfl, ?_⟩; replace HB := bel_b hb HB; replace Bbn := blk_b hb Bbn; (try clear cbn_0); have cbn_0 := cells1 Bbn.out; replace Bba := blk_b hb Bba; (try clear cba_0); have cba_0 := cells1 Bba.out; replace Bg := blk_b hb Bg; (try clear cg_0 cg_1 cg_2 cg_3 cg_4); obtain ⟨cg_0, cg_1, cg_2, cg_3, cg_4⟩ := cells5 Bg.out; (try clear hb); ))
    go_ret
    exact ⟨by rw [HE.out]; rfl, (bel_r HB)⟩
  · have HE : Aside0 (getterE n x = spanE x.f2.f0 x.f2.f1 1000000000) := ⟨by unfold getterE; rw [if_neg (by simpa using hs)]⟩
    have hsn : (atE n x.f0 x.f1.f0 x.f1.f1 1000000 != 0) = false := by simpa using hs
    go_enter Try.func91, Try.ntmps91
    have cba_0 := cells1 Bba.out; have cbn_0 := cells1 Bbn.out; 
    go_wp2_with (first | ((with_reducible refine gate_dst (N := 2) rfl ?_); go_must (refine box_ev (N := 2) (cs := #[.int .i64 x.f0, .int .i64 x.f1.f0, .int .i64 x.f1.f1, .int .i64 x.f2.f0, .int .i64 x.f2.f1]) (t := 142) (h := ?_); intro g hgg w1 hbox hb; have GEg := ge_new HB hgg; have N_bn_g := ne_new Bbn hgg; have N_ba_g := ne_new Bba hgg; replace HB := bel_b hb HB; replace Bbn := blk_b hb Bbn; (try clear cbn_0); have cbn_0 := cells1 Bbn.out; replace Bba := blk_b hb Bba; (try clear cba_0); have cba_0 := cells1 Bba.out; have Bg := Aside0.mk hbox; clear hbox; obtain ⟨cg_0, cg_1, cg_2, cg_3, cg_4⟩ := cells5 Bg.out; (try clear hb); clear hgg)) | ((with_reducible refine gate_value (t := 5) rfl ?_); refine goes_v (some 10) Try.func85 (at_any x.f0 x.f1.f0 x.f1.f1 1000000 bn n _ hn0.out hn1.out Bbn.out) (h := ?_); rintro e w2 ⟨rfl, hb⟩; refine ⟨_, rfl, ?_⟩; replace HB := bel_b hb HB; replace Bbn := blk_b hb Bbn; (try clear cbn_0); have cbn_0 := cells1 Bbn.out; replace Bba := blk_b hb Bba; (try clear cba_0); have cba_0 := cells1 Bba.out; replace Bg := blk_b hb Bg; (try clear cg_0 cg_1 cg_2 cg_3 cg_4); obtain ⟨cg_0, cg_1, cg_2, cg_3, cg_4⟩ := cells5 Bg.out; (try clear hb); ) | ((with_reducible refine gate_callee (f := 87) rfl ?_); refine goes_c (some 16) Try.func87 (spans_any x.f2.f0 x.f2.f1 1000000000 _) (h := ?_); rintro e w3 ⟨rfl, hb⟩; refine ⟨_, rfl, ?_⟩; replace HB := bel_b hb HB; replace Bbn := blk_b hb Bbn; (try clear cbn_0); have cbn_0 := cells1 Bbn.out; replace Bba := blk_b hb Bba; (try clear cba_0); have cba_0 := cells1 Bba.out; replace Bg := blk_b hb Bg; (try clear cg_0 cg_1 cg_2 cg_3 cg_4); obtain ⟨cg_0, cg_1, cg_2, cg_3, cg_4⟩ := cells5 Bg.out; (try clear hb); ))
    go_ret
    exact ⟨by rw [HE.out]; rfl, (bel_r HB)⟩
end Go.Proofs.Ytkhnhkjihhhbbaa.P

namespace Go.Proofs.Ytkhnhkjihhhbbaa.P
open Go.RowKit Go.Proofs.YtkhnhkjihhhbbaaW.PrintWords Go.Proofs.YtkhnhkjihhhbbaaW.PrintLast Go.Proofs.YtkhnhkjihhhbbaaW.PrintMore
set_option linter.unusedVariables false
set_option linter.unusedSimpArgs false
/-- The first error of a list's elements; 0 where there is none. -/
def everyE {α : Type} (E : α → Int) : List α → Int
  | [] => 0
  | x :: l => if E x ≠ 0 then E x else everyE E l
set_option maxHeartbeats 4000000 in
set_option maxRecDepth 100000 in
theorem every_vessel (xs : List S36) (A : Option Addr) (c : Nat) (bl bc : Nat) (w : World) (hr : Kd.C k36 w A xs.length xs) (hc : xs.length ≤ c) (hlen : xs.length ≤ 100) (hbl : w.heap[bl]? = some (.cells #[.slice A xs.length c] 23 (0, 0))) (hbc : w.heap[bc]? = some (.cells #[.func (.func 94) #[] #[]] 154 (0, 0))) :
    Calls Try.prog 122 #[.pointer (some ⟨bl, 0, none⟩), .pointer (some ⟨bc, 0, none⟩)] w fun e w' => e = .returned (.int .i64 (everyE vesselE xs)) ∧ Below w.heap.size w w' := by
  have HR := Aside0.mk hr
  have HC := Aside0.mk hc
  clear hr hc
  have Bbl := Aside0.mk hbl
  have Bbc := Aside0.mk hbc
  clear hbl hbc
  have HB := Aside0.mk (Below.refl w.heap.size w)
  go_enter Try.func122, Try.ntmps122
  have cbl_0 := cells1 Bbl.out; 
  go_wp2
  clear cbl_0
  go_loopg [8] (xs.length) (fun k v8 w' => ∃ i : Int, 0 ≤ i ∧ k = xs.length - i.toNat ∧ i ≤ xs.length ∧ v8 = .int .i64 i ∧ Aside0 (everyE vesselE xs = everyE vesselE (xs.drop i.toNat)) ∧ Aside0 (w'.heap[bc]? = some (.cells #[.func (.func 94) #[] #[]] 154 (0, 0))) ∧ Aside0 (Below w.heap.size w w'))
  case atStart => exact ⟨0, by omega, by simp, by omega, rfl, ⟨by simp⟩, Bbc, HB⟩
  case round =>
    clear HB Bbc
    obtain ⟨i, hi0, hn, hi, rfl, HE, Bbc, HB⟩ := hrel
    have Hn := Aside0.mk hn
    clear hn
    have cbc_0 := cells1 Bbc.out; 
    by_cases hi' : i < xs.length
    · have HD : Aside0 (xs.drop i.toNat = (rd_T36 xs i) :: xs.drop (i + 1).toNat) := ⟨by
        rw [show (i + 1).toNat = i.toNat + 1 by omega, List.drop_eq_getElem_cons (by omega)]; unfold rd_T36; simp [List.getD_eq_getElem?_getD, List.getElem?_eq_getElem (show i.toNat < xs.length by omega)]⟩
      obtain ⟨ad, A5, c5, had, k0, k1, k2, k3, k4, k5, hc5, hr5⟩ := at_T36 HR.out i hi0 hi'
      · have HC5 := Aside0.mk hc5
        have HR5 : Aside0 (∀ W_, Below w.heap.size w W_ → k136.C W_ A5 (rd_T36 xs i).f3.length (rd_T36 xs i).f3) := ⟨fun W_ hW => Kd.C_below hr5 hW⟩
        clear hc5 hr5
        replace k0 := pw_cell_below HB.out k0
        replace k1 := pw_cell_below HB.out k1
        replace k2 := pw_cell_below HB.out k2
        replace k3 := pw_cell_below HB.out k3
        replace k4 := pw_cell_below HB.out k4
        replace k5 := pw_cell_below HB.out k5
        cases had
        cases hs : vesselE (rd_T36 xs i) == 0
        · have hsn : (vesselE (rd_T36 xs i) != 0) = true := by simpa using hs
          have HE2 : Aside0 (everyE vesselE xs = vesselE (rd_T36 xs i)) := ⟨by rw [HE.out, HD.out]; unfold everyE; rw [if_pos (by simpa using hs)]⟩
          go_wp2_with (first | ((with_reducible refine gate_dst (N := 4) rfl ?_); go_must (refine box_ev (N := 4) (cs := #[.int .i64 0, .int .i64 0, .int .i64 0, .int .i64 0, .int .i64 0, .slice none 0 0]) (t := 36) (h := ?_); intro b4 hgb4 w2 hbox hb; have GEb4 := ge_new HB hgb4; have N_bc_b4 := ne_new Bbc hgb4; replace HB := bel_b hb HB; replace Bbc := blk_b hb Bbc; (try clear cbc_0); have cbc_0 := cells1 Bbc.out; have Bb4 := Aside0.mk hbox; clear hbox; obtain ⟨cb4_0, cb4_1, cb4_2, cb4_3, cb4_4, cb4_5⟩ := cells6 Bb4.out; (try clear hb); clear hgb4)) | ((with_reducible refine gate_store (t := 36) (p := 4) rfl ?_); go_must (refine row_ev b4 #[.int .i64 (rd_T36 xs i).f0, .int .i64 (rd_T36 xs i).f1.f0, .int .i64 (rd_T36 xs i).f1.f1, .int .i64 (rd_T36 xs i).f2.f0, .int .i64 (rd_T36 xs i).f2.f1, .slice A5 (rd_T36 xs i).f3.length c5] Bb4.out (h := ?_); intro w3 hbox ho_; replace HB := bel_o ho_ HB GEb4; replace Bbc := blk_o ho_ Bbc (by first | exact N_bc_b4.out | exact N_b4_bc.out.symm); (try clear cbc_0); have cbc_0 := cells1 Bbc.out; replace Bb4 := Aside0.mk hbox; clear hbox ho_; (try clear cb4_0 cb4_1 cb4_2 cb4_3 cb4_4 cb4_5); obtain ⟨cb4_0, cb4_1, cb4_2, cb4_3, cb4_4, cb4_5⟩ := cells6 Bb4.out; )) | ((with_reducible refine gate_value (t := 12) rfl ?_); refine goes_v (some 14) Try.func94 (vessel_any (rd_T36 xs i) A5 c5 _ (HR5.out _ HB.out) HC5.out) (h := ?_); rintro e w4 ⟨rfl, hb⟩; refine ⟨_, rfl, ?_⟩; replace HB := bel_b hb HB; replace Bbc := blk_b hb Bbc; (try clear cbc_0); have cbc_0 := cells1 Bbc.out; replace Bb4 := blk_b hb Bb4; (try clear cb4_0 cb4_1 cb4_2 cb4_3 cb4_4 cb4_5); obtain ⟨cb4_0, cb4_1, cb4_2, cb4_3, cb4_4, cb4_5⟩ := cells6 Bb4.out; (try clear hb); ))
          go_ret
          exact ⟨by rw [HE2.out]; rfl, (bel_r HB)⟩
        · have hsn : (vesselE (rd_T36 xs i) != 0) = false := by simpa using hs
          have HE2 : Aside0 (everyE vesselE xs = everyE vesselE (xs.drop (i + 1).toNat)) := ⟨by rw [HE.out, HD.out]; conv => { lhs; unfold everyE }; rw [if_neg (by simpa using hs)]⟩
          go_wp2_with (first | ((with_reducible refine gate_dst (N := 4) rfl ?_); go_must (refine box_ev (N := 4) (cs := #[.int .i64 0, .int .i64 0, .int .i64 0, .int .i64 0, .int .i64 0, .slice none 0 0]) (t := 36) (h := ?_); intro b4 hgb4 w2 hbox hb; have GEb4 := ge_new HB hgb4; have N_bc_b4 := ne_new Bbc hgb4; replace HB := bel_b hb HB; replace Bbc := blk_b hb Bbc; (try clear cbc_0); have cbc_0 := cells1 Bbc.out; have Bb4 := Aside0.mk hbox; clear hbox; obtain ⟨cb4_0, cb4_1, cb4_2, cb4_3, cb4_4, cb4_5⟩ := cells6 Bb4.out; (try clear hb); clear hgb4)) | ((with_reducible refine gate_store (t := 36) (p := 4) rfl ?_); go_must (refine row_ev b4 #[.int .i64 (rd_T36 xs i).f0, .int .i64 (rd_T36 xs i).f1.f0, .int .i64 (rd_T36 xs i).f1.f1, .int .i64 (rd_T36 xs i).f2.f0, .int .i64 (rd_T36 xs i).f2.f1, .slice A5 (rd_T36 xs i).f3.length c5] Bb4.out (h := ?_); intro w3 hbox ho_; replace HB := bel_o ho_ HB GEb4; replace Bbc := blk_o ho_ Bbc (by first | exact N_bc_b4.out | exact N_b4_bc.out.symm); (try clear cbc_0); have cbc_0 := cells1 Bbc.out; replace Bb4 := Aside0.mk hbox; clear hbox ho_; (try clear cb4_0 cb4_1 cb4_2 cb4_3 cb4_4 cb4_5); obtain ⟨cb4_0, cb4_1, cb4_2, cb4_3, cb4_4, cb4_5⟩ := cells6 Bb4.out; )) | ((with_reducible refine gate_value (t := 12) rfl ?_); refine goes_v (some 14) Try.func94 (vessel_any (rd_T36 xs i) A5 c5 _ (HR5.out _ HB.out) HC5.out) (h := ?_); rintro e w4 ⟨rfl, hb⟩; refine ⟨_, rfl, ?_⟩; replace HB := bel_b hb HB; replace Bbc := blk_b hb Bbc; (try clear cbc_0); have cbc_0 := cells1 Bbc.out; replace Bb4 := blk_b hb Bb4; (try clear cb4_0 cb4_1 cb4_2 cb4_3 cb4_4 cb4_5); obtain ⟨cb4_0, cb4_1, cb4_2, cb4_3, cb4_4, cb4_5⟩ := cells6 Bb4.out; (try clear hb); ))
          go_roundg (xs.length - (i + 1).toNat)
          case measure => have := Hn.out; omega
          case rel => exact ⟨i + 1, by omega, rfl, by omega, rfl, HE2, ⟨Bbc.out⟩, ⟨(bel_r HB)⟩⟩
    · have HE1 : Aside0 (everyE vesselE xs = 0) := ⟨by rw [HE.out, List.drop_eq_nil_of_le (by omega)]; rfl⟩
      go_wp2
      go_ret
      exact ⟨by rw [HE1.out]; rfl, (bel_r HB)⟩
set_option maxHeartbeats 4000000 in
set_option maxRecDepth 100000 in
theorem every_pipe (xs : List S138) (A : Option Addr) (c : Nat) (bl bc : Nat) (bn : Nat) (n : Int) (w : World) (hr : Kd.C k138 w A xs.length xs) (hc : xs.length ≤ c) (hlen : xs.length ≤ 100) (hbl : w.heap[bl]? = some (.cells #[.slice A xs.length c] 24 (0, 0))) (hbc : w.heap[bc]? = some (.cells #[.func (.func 88) #[] #[.pointer (some ⟨bn, 0, none⟩)]] 147 (0, 0))) (h0 : 0 ≤ n) (h1 : n ≤ 140737488355328) (hbn : w.heap[bn]? = some (.cells #[.int .i64 n] 3 (0, 0))) :
    Calls Try.prog 123 #[.pointer (some ⟨bl, 0, none⟩), .pointer (some ⟨bc, 0, none⟩)] w fun e w' => e = .returned (.int .i64 (everyE (pipeE n) xs)) ∧ Below w.heap.size w w' := by
  have HR := Aside0.mk hr
  have HC := Aside0.mk hc
  clear hr hc
  have Bbl := Aside0.mk hbl
  have Bbc := Aside0.mk hbc
  clear hbl hbc
  have hn0 := Aside0.mk h0
  have hn1 := Aside0.mk h1
  have Bbn := Aside0.mk hbn
  clear h0 h1 hbn
  have HB := Aside0.mk (Below.refl w.heap.size w)
  go_enter Try.func123, Try.ntmps123
  have cbl_0 := cells1 Bbl.out; 
  go_wp2
  clear cbl_0
  go_loopg [8] (xs.length) (fun k v8 w' => ∃ i : Int, 0 ≤ i ∧ k = xs.length - i.toNat ∧ i ≤ xs.length ∧ v8 = .int .i64 i ∧ Aside0 (everyE (pipeE n) xs = everyE (pipeE n) (xs.drop i.toNat)) ∧ Aside0 (w'.heap[bc]? = some (.cells #[.func (.func 88) #[] #[.pointer (some ⟨bn, 0, none⟩)]] 147 (0, 0))) ∧ Aside0 (w'.heap[bn]? = some (.cells #[.int .i64 n] 3 (0, 0))) ∧ Aside0 (Below w.heap.size w w'))
  case atStart => exact ⟨0, by omega, by simp, by omega, rfl, ⟨by simp⟩, Bbc, Bbn, HB⟩
  case round =>
    clear HB Bbc Bbn
    obtain ⟨i, hi0, hn, hi, rfl, HE, Bbc, Bbn, HB⟩ := hrel
    have Hn := Aside0.mk hn
    clear hn
    have cbc_0 := cells1 Bbc.out; have cbn_0 := cells1 Bbn.out; 
    by_cases hi' : i < xs.length
    · have HD : Aside0 (xs.drop i.toNat = (rd_T138 xs i) :: xs.drop (i + 1).toNat) := ⟨by
        rw [show (i + 1).toNat = i.toNat + 1 by omega, List.drop_eq_getElem_cons (by omega)]; unfold rd_T138; simp [List.getD_eq_getElem?_getD, List.getElem?_eq_getElem (show i.toNat < xs.length by omega)]⟩
      obtain ⟨ad, had, k0, k1, k2, k3, k4, k5⟩ := at_T138 HR.out i hi0 hi'
      · skip
        replace k0 := pw_cell_below HB.out k0
        replace k1 := pw_cell_below HB.out k1
        replace k2 := pw_cell_below HB.out k2
        replace k3 := pw_cell_below HB.out k3
        replace k4 := pw_cell_below HB.out k4
        replace k5 := pw_cell_below HB.out k5
        cases had
        cases hs : (pipeE n) (rd_T138 xs i) == 0
        · have hsn : ((pipeE n) (rd_T138 xs i) != 0) = true := by simpa using hs
          have HE2 : Aside0 (everyE (pipeE n) xs = (pipeE n) (rd_T138 xs i)) := ⟨by rw [HE.out, HD.out]; unfold everyE; rw [if_pos (by simpa using hs)]⟩
          go_wp2_with (first | ((with_reducible refine gate_dst (N := 4) rfl ?_); go_must (refine box_ev (N := 4) (cs := #[.int .i64 0, .int .i64 0, .int .i64 0, .int .i64 0, .int .i64 0, .int .i64 0]) (t := 138) (h := ?_); intro b4 hgb4 w2 hbox hb; have GEb4 := ge_new HB hgb4; have N_bc_b4 := ne_new Bbc hgb4; have N_bn_b4 := ne_new Bbn hgb4; replace HB := bel_b hb HB; replace Bbc := blk_b hb Bbc; (try clear cbc_0); have cbc_0 := cells1 Bbc.out; replace Bbn := blk_b hb Bbn; (try clear cbn_0); have cbn_0 := cells1 Bbn.out; have Bb4 := Aside0.mk hbox; clear hbox; obtain ⟨cb4_0, cb4_1, cb4_2, cb4_3, cb4_4, cb4_5⟩ := cells6 Bb4.out; (try clear hb); clear hgb4)) | ((with_reducible refine gate_store (t := 138) (p := 4) rfl ?_); go_must (refine row_ev b4 #[.int .i64 (rd_T138 xs i).f0, .int .i64 (rd_T138 xs i).f1, .int .i64 (rd_T138 xs i).f2.f0, .int .i64 (rd_T138 xs i).f2.f1, .int .i64 (rd_T138 xs i).f3.f0, .int .i64 (rd_T138 xs i).f3.f1] Bb4.out (h := ?_); intro w3 hbox ho_; replace HB := bel_o ho_ HB GEb4; replace Bbc := blk_o ho_ Bbc (by first | exact N_bc_b4.out | exact N_b4_bc.out.symm); (try clear cbc_0); have cbc_0 := cells1 Bbc.out; replace Bbn := blk_o ho_ Bbn (by first | exact N_bn_b4.out | exact N_b4_bn.out.symm); (try clear cbn_0); have cbn_0 := cells1 Bbn.out; replace Bb4 := Aside0.mk hbox; clear hbox ho_; (try clear cb4_0 cb4_1 cb4_2 cb4_3 cb4_4 cb4_5); obtain ⟨cb4_0, cb4_1, cb4_2, cb4_3, cb4_4, cb4_5⟩ := cells6 Bb4.out; )) | ((with_reducible refine gate_value (t := 12) rfl ?_); refine goes_v (some 14) Try.func88 (pipe_any (rd_T138 xs i) bn n _ hn0.out hn1.out Bbn.out) (h := ?_); rintro e w4 ⟨rfl, hb⟩; refine ⟨_, rfl, ?_⟩; replace HB := bel_b hb HB; replace Bbc := blk_b hb Bbc; (try clear cbc_0); have cbc_0 := cells1 Bbc.out; replace Bbn := blk_b hb Bbn; (try clear cbn_0); have cbn_0 := cells1 Bbn.out; replace Bb4 := blk_b hb Bb4; (try clear cb4_0 cb4_1 cb4_2 cb4_3 cb4_4 cb4_5); obtain ⟨cb4_0, cb4_1, cb4_2, cb4_3, cb4_4, cb4_5⟩ := cells6 Bb4.out; (try clear hb); ))
          go_ret
          exact ⟨by rw [HE2.out]; rfl, (bel_r HB)⟩
        · have hsn : ((pipeE n) (rd_T138 xs i) != 0) = false := by simpa using hs
          have HE2 : Aside0 (everyE (pipeE n) xs = everyE (pipeE n) (xs.drop (i + 1).toNat)) := ⟨by rw [HE.out, HD.out]; conv => { lhs; unfold everyE }; rw [if_neg (by simpa using hs)]⟩
          go_wp2_with (first | ((with_reducible refine gate_dst (N := 4) rfl ?_); go_must (refine box_ev (N := 4) (cs := #[.int .i64 0, .int .i64 0, .int .i64 0, .int .i64 0, .int .i64 0, .int .i64 0]) (t := 138) (h := ?_); intro b4 hgb4 w2 hbox hb; have GEb4 := ge_new HB hgb4; have N_bc_b4 := ne_new Bbc hgb4; have N_bn_b4 := ne_new Bbn hgb4; replace HB := bel_b hb HB; replace Bbc := blk_b hb Bbc; (try clear cbc_0); have cbc_0 := cells1 Bbc.out; replace Bbn := blk_b hb Bbn; (try clear cbn_0); have cbn_0 := cells1 Bbn.out; have Bb4 := Aside0.mk hbox; clear hbox; obtain ⟨cb4_0, cb4_1, cb4_2, cb4_3, cb4_4, cb4_5⟩ := cells6 Bb4.out; (try clear hb); clear hgb4)) | ((with_reducible refine gate_store (t := 138) (p := 4) rfl ?_); go_must (refine row_ev b4 #[.int .i64 (rd_T138 xs i).f0, .int .i64 (rd_T138 xs i).f1, .int .i64 (rd_T138 xs i).f2.f0, .int .i64 (rd_T138 xs i).f2.f1, .int .i64 (rd_T138 xs i).f3.f0, .int .i64 (rd_T138 xs i).f3.f1] Bb4.out (h := ?_); intro w3 hbox ho_; replace HB := bel_o ho_ HB GEb4; replace Bbc := blk_o ho_ Bbc (by first | exact N_bc_b4.out | exact N_b4_bc.out.symm); (try clear cbc_0); have cbc_0 := cells1 Bbc.out; replace Bbn := blk_o ho_ Bbn (by first | exact N_bn_b4.out | exact N_b4_bn.out.symm); (try clear cbn_0); have cbn_0 := cells1 Bbn.out; replace Bb4 := Aside0.mk hbox; clear hbox ho_; (try clear cb4_0 cb4_1 cb4_2 cb4_3 cb4_4 cb4_5); obtain ⟨cb4_0, cb4_1, cb4_2, cb4_3, cb4_4, cb4_5⟩ := cells6 Bb4.out; )) | ((with_reducible refine gate_value (t := 12) rfl ?_); refine goes_v (some 14) Try.func88 (pipe_any (rd_T138 xs i) bn n _ hn0.out hn1.out Bbn.out) (h := ?_); rintro e w4 ⟨rfl, hb⟩; refine ⟨_, rfl, ?_⟩; replace HB := bel_b hb HB; replace Bbc := blk_b hb Bbc; (try clear cbc_0); have cbc_0 := cells1 Bbc.out; replace Bbn := blk_b hb Bbn; (try clear cbn_0); have cbn_0 := cells1 Bbn.out; replace Bb4 := blk_b hb Bb4; (try clear cb4_0 cb4_1 cb4_2 cb4_3 cb4_4 cb4_5); obtain ⟨cb4_0, cb4_1, cb4_2, cb4_3, cb4_4, cb4_5⟩ := cells6 Bb4.out; (try clear hb); ))
          go_roundg (xs.length - (i + 1).toNat)
          case measure => have := Hn.out; omega
          case rel => exact ⟨i + 1, by omega, rfl, by omega, rfl, HE2, ⟨Bbc.out⟩, ⟨Bbn.out⟩, ⟨(bel_r HB)⟩⟩
    · have HE1 : Aside0 (everyE (pipeE n) xs = 0) := ⟨by rw [HE.out, List.drop_eq_nil_of_le (by omega)]; rfl⟩
      go_wp2
      go_ret
      exact ⟨by rw [HE1.out]; rfl, (bel_r HB)⟩
set_option maxHeartbeats 4000000 in
set_option maxRecDepth 100000 in
theorem every_pump (xs : List S112) (A : Option Addr) (c : Nat) (bl bc : Nat) (ba bn : Nat) (n : Int) (w : World) (hr : Kd.C k112 w A xs.length xs) (hc : xs.length ≤ c) (hlen : xs.length ≤ 100) (hbl : w.heap[bl]? = some (.cells #[.slice A xs.length c] 25 (0, 0))) (hbc : w.heap[bc]? = some (.cells #[.func (.func 89) #[] #[.pointer (some ⟨ba, 0, none⟩)]] 148 (0, 0))) (h0 : 0 ≤ n) (h1 : n ≤ 140737488355328) (hbn : w.heap[bn]? = some (.cells #[.int .i64 n] 3 (0, 0))) (hba : w.heap[ba]? = some (.cells #[.func (.func 85) #[] #[.pointer (some ⟨bn, 0, none⟩)]] 146 (0, 0))) :
    Calls Try.prog 124 #[.pointer (some ⟨bl, 0, none⟩), .pointer (some ⟨bc, 0, none⟩)] w fun e w' => e = .returned (.int .i64 (everyE (pumpE n) xs)) ∧ Below w.heap.size w w' := by
  have HR := Aside0.mk hr
  have HC := Aside0.mk hc
  clear hr hc
  have Bbl := Aside0.mk hbl
  have Bbc := Aside0.mk hbc
  clear hbl hbc
  have hn0 := Aside0.mk h0
  have hn1 := Aside0.mk h1
  have Bbn := Aside0.mk hbn
  clear h0 h1 hbn
  have Bba := Aside0.mk hba
  clear hba
  have HB := Aside0.mk (Below.refl w.heap.size w)
  go_enter Try.func124, Try.ntmps124
  have cbl_0 := cells1 Bbl.out; 
  go_wp2
  clear cbl_0
  go_loopg [8] (xs.length) (fun k v8 w' => ∃ i : Int, 0 ≤ i ∧ k = xs.length - i.toNat ∧ i ≤ xs.length ∧ v8 = .int .i64 i ∧ Aside0 (everyE (pumpE n) xs = everyE (pumpE n) (xs.drop i.toNat)) ∧ Aside0 (w'.heap[bc]? = some (.cells #[.func (.func 89) #[] #[.pointer (some ⟨ba, 0, none⟩)]] 148 (0, 0))) ∧ Aside0 (w'.heap[bn]? = some (.cells #[.int .i64 n] 3 (0, 0))) ∧ Aside0 (w'.heap[ba]? = some (.cells #[.func (.func 85) #[] #[.pointer (some ⟨bn, 0, none⟩)]] 146 (0, 0))) ∧ Aside0 (Below w.heap.size w w'))
  case atStart => exact ⟨0, by omega, by simp, by omega, rfl, ⟨by simp⟩, Bbc, Bbn, Bba, HB⟩
  case round =>
    clear HB Bbc Bbn Bba
    obtain ⟨i, hi0, hn, hi, rfl, HE, Bbc, Bbn, Bba, HB⟩ := hrel
    have Hn := Aside0.mk hn
    clear hn
    have cbc_0 := cells1 Bbc.out; have cbn_0 := cells1 Bbn.out; have cba_0 := cells1 Bba.out; 
    by_cases hi' : i < xs.length
    · have HD : Aside0 (xs.drop i.toNat = (rd_T112 xs i) :: xs.drop (i + 1).toNat) := ⟨by
        rw [show (i + 1).toNat = i.toNat + 1 by omega, List.drop_eq_getElem_cons (by omega)]; unfold rd_T112; simp [List.getD_eq_getElem?_getD, List.getElem?_eq_getElem (show i.toNat < xs.length by omega)]⟩
      obtain ⟨ad, had, k0, k1, k2⟩ := at_T112 HR.out i hi0 hi'
      · skip
        replace k0 := pw_cell_below HB.out k0
        replace k1 := pw_cell_below HB.out k1
        replace k2 := pw_cell_below HB.out k2
        cases had
        cases hs : (pumpE n) (rd_T112 xs i) == 0
        · have hsn : ((pumpE n) (rd_T112 xs i) != 0) = true := by simpa using hs
          have HE2 : Aside0 (everyE (pumpE n) xs = (pumpE n) (rd_T112 xs i)) := ⟨by rw [HE.out, HD.out]; unfold everyE; rw [if_pos (by simpa using hs)]⟩
          go_wp2_with (first | ((with_reducible refine gate_dst (N := 4) rfl ?_); go_must (refine box_ev (N := 4) (cs := #[.int .i64 0, .int .i64 0, .int .i64 0]) (t := 112) (h := ?_); intro b4 hgb4 w2 hbox hb; have GEb4 := ge_new HB hgb4; have N_bc_b4 := ne_new Bbc hgb4; have N_bn_b4 := ne_new Bbn hgb4; have N_ba_b4 := ne_new Bba hgb4; replace HB := bel_b hb HB; replace Bbc := blk_b hb Bbc; (try clear cbc_0); have cbc_0 := cells1 Bbc.out; replace Bbn := blk_b hb Bbn; (try clear cbn_0); have cbn_0 := cells1 Bbn.out; replace Bba := blk_b hb Bba; (try clear cba_0); have cba_0 := cells1 Bba.out; have Bb4 := Aside0.mk hbox; clear hbox; obtain ⟨cb4_0, cb4_1, cb4_2⟩ := cells3 Bb4.out; (try clear hb); clear hgb4)) | ((with_reducible refine gate_store (t := 112) (p := 4) rfl ?_); go_must (refine row_ev b4 #[.int .i64 (rd_T112 xs i).f0, .int .i64 (rd_T112 xs i).f1.f0, .int .i64 (rd_T112 xs i).f1.f1] Bb4.out (h := ?_); intro w3 hbox ho_; replace HB := bel_o ho_ HB GEb4; replace Bbc := blk_o ho_ Bbc (by first | exact N_bc_b4.out | exact N_b4_bc.out.symm); (try clear cbc_0); have cbc_0 := cells1 Bbc.out; replace Bbn := blk_o ho_ Bbn (by first | exact N_bn_b4.out | exact N_b4_bn.out.symm); (try clear cbn_0); have cbn_0 := cells1 Bbn.out; replace Bba := blk_o ho_ Bba (by first | exact N_ba_b4.out | exact N_b4_ba.out.symm); (try clear cba_0); have cba_0 := cells1 Bba.out; replace Bb4 := Aside0.mk hbox; clear hbox ho_; (try clear cb4_0 cb4_1 cb4_2); obtain ⟨cb4_0, cb4_1, cb4_2⟩ := cells3 Bb4.out; )) | ((with_reducible refine gate_value (t := 12) rfl ?_); refine goes_v (some 14) Try.func89 (pump_any (rd_T112 xs i) ba bn n _ hn0.out hn1.out Bbn.out Bba.out) (h := ?_); rintro e w4 ⟨rfl, hb⟩; refine ⟨_, rfl, ?_⟩; replace HB := bel_b hb HB; replace Bbc := blk_b hb Bbc; (try clear cbc_0); have cbc_0 := cells1 Bbc.out; replace Bbn := blk_b hb Bbn; (try clear cbn_0); have cbn_0 := cells1 Bbn.out; replace Bba := blk_b hb Bba; (try clear cba_0); have cba_0 := cells1 Bba.out; replace Bb4 := blk_b hb Bb4; (try clear cb4_0 cb4_1 cb4_2); obtain ⟨cb4_0, cb4_1, cb4_2⟩ := cells3 Bb4.out; (try clear hb); ))
          go_ret
          exact ⟨by rw [HE2.out]; rfl, (bel_r HB)⟩
        · have hsn : ((pumpE n) (rd_T112 xs i) != 0) = false := by simpa using hs
          have HE2 : Aside0 (everyE (pumpE n) xs = everyE (pumpE n) (xs.drop (i + 1).toNat)) := ⟨by rw [HE.out, HD.out]; conv => { lhs; unfold everyE }; rw [if_neg (by simpa using hs)]⟩
          go_wp2_with (first | ((with_reducible refine gate_dst (N := 4) rfl ?_); go_must (refine box_ev (N := 4) (cs := #[.int .i64 0, .int .i64 0, .int .i64 0]) (t := 112) (h := ?_); intro b4 hgb4 w2 hbox hb; have GEb4 := ge_new HB hgb4; have N_bc_b4 := ne_new Bbc hgb4; have N_bn_b4 := ne_new Bbn hgb4; have N_ba_b4 := ne_new Bba hgb4; replace HB := bel_b hb HB; replace Bbc := blk_b hb Bbc; (try clear cbc_0); have cbc_0 := cells1 Bbc.out; replace Bbn := blk_b hb Bbn; (try clear cbn_0); have cbn_0 := cells1 Bbn.out; replace Bba := blk_b hb Bba; (try clear cba_0); have cba_0 := cells1 Bba.out; have Bb4 := Aside0.mk hbox; clear hbox; obtain ⟨cb4_0, cb4_1, cb4_2⟩ := cells3 Bb4.out; (try clear hb); clear hgb4)) | ((with_reducible refine gate_store (t := 112) (p := 4) rfl ?_); go_must (refine row_ev b4 #[.int .i64 (rd_T112 xs i).f0, .int .i64 (rd_T112 xs i).f1.f0, .int .i64 (rd_T112 xs i).f1.f1] Bb4.out (h := ?_); intro w3 hbox ho_; replace HB := bel_o ho_ HB GEb4; replace Bbc := blk_o ho_ Bbc (by first | exact N_bc_b4.out | exact N_b4_bc.out.symm); (try clear cbc_0); have cbc_0 := cells1 Bbc.out; replace Bbn := blk_o ho_ Bbn (by first | exact N_bn_b4.out | exact N_b4_bn.out.symm); (try clear cbn_0); have cbn_0 := cells1 Bbn.out; replace Bba := blk_o ho_ Bba (by first | exact N_ba_b4.out | exact N_b4_ba.out.symm); (try clear cba_0); have cba_0 := cells1 Bba.out; replace Bb4 := Aside0.mk hbox; clear hbox ho_; (try clear cb4_0 cb4_1 cb4_2); obtain ⟨cb4_0, cb4_1, cb4_2⟩ := cells3 Bb4.out; )) | ((with_reducible refine gate_value (t := 12) rfl ?_); refine goes_v (some 14) Try.func89 (pump_any (rd_T112 xs i) ba bn n _ hn0.out hn1.out Bbn.out Bba.out) (h := ?_); rintro e w4 ⟨rfl, hb⟩; refine ⟨_, rfl, ?_⟩; replace HB := bel_b hb HB; replace Bbc := blk_b hb Bbc; (try clear cbc_0); have cbc_0 := cells1 Bbc.out; replace Bbn := blk_b hb Bbn; (try clear cbn_0); have cbn_0 := cells1 Bbn.out; replace Bba := blk_b hb Bba; (try clear cba_0); have cba_0 := cells1 Bba.out; replace Bb4 := blk_b hb Bb4; (try clear cb4_0 cb4_1 cb4_2); obtain ⟨cb4_0, cb4_1, cb4_2⟩ := cells3 Bb4.out; (try clear hb); ))
          go_roundg (xs.length - (i + 1).toNat)
          case measure => have := Hn.out; omega
          case rel => exact ⟨i + 1, by omega, rfl, by omega, rfl, HE2, ⟨Bbc.out⟩, ⟨Bbn.out⟩, ⟨Bba.out⟩, ⟨(bel_r HB)⟩⟩
    · have HE1 : Aside0 (everyE (pumpE n) xs = 0) := ⟨by rw [HE.out, List.drop_eq_nil_of_le (by omega)]; rfl⟩
      go_wp2
      go_ret
      exact ⟨by rw [HE1.out]; rfl, (bel_r HB)⟩
set_option maxHeartbeats 4000000 in
set_option maxRecDepth 100000 in
theorem every_leak (xs : List S140) (A : Option Addr) (c : Nat) (bl bc : Nat) (ba bn : Nat) (n : Int) (w : World) (hr : Kd.C k140 w A xs.length xs) (hc : xs.length ≤ c) (hlen : xs.length ≤ 100) (hbl : w.heap[bl]? = some (.cells #[.slice A xs.length c] 26 (0, 0))) (hbc : w.heap[bc]? = some (.cells #[.func (.func 90) #[] #[.pointer (some ⟨ba, 0, none⟩)]] 149 (0, 0))) (h0 : 0 ≤ n) (h1 : n ≤ 140737488355328) (hbn : w.heap[bn]? = some (.cells #[.int .i64 n] 3 (0, 0))) (hba : w.heap[ba]? = some (.cells #[.func (.func 85) #[] #[.pointer (some ⟨bn, 0, none⟩)]] 146 (0, 0))) :
    Calls Try.prog 125 #[.pointer (some ⟨bl, 0, none⟩), .pointer (some ⟨bc, 0, none⟩)] w fun e w' => e = .returned (.int .i64 (everyE (leakE n) xs)) ∧ Below w.heap.size w w' := by
  have HR := Aside0.mk hr
  have HC := Aside0.mk hc
  clear hr hc
  have Bbl := Aside0.mk hbl
  have Bbc := Aside0.mk hbc
  clear hbl hbc
  have hn0 := Aside0.mk h0
  have hn1 := Aside0.mk h1
  have Bbn := Aside0.mk hbn
  clear h0 h1 hbn
  have Bba := Aside0.mk hba
  clear hba
  have HB := Aside0.mk (Below.refl w.heap.size w)
  go_enter Try.func125, Try.ntmps125
  have cbl_0 := cells1 Bbl.out; 
  go_wp2
  clear cbl_0
  go_loopg [8] (xs.length) (fun k v8 w' => ∃ i : Int, 0 ≤ i ∧ k = xs.length - i.toNat ∧ i ≤ xs.length ∧ v8 = .int .i64 i ∧ Aside0 (everyE (leakE n) xs = everyE (leakE n) (xs.drop i.toNat)) ∧ Aside0 (w'.heap[bc]? = some (.cells #[.func (.func 90) #[] #[.pointer (some ⟨ba, 0, none⟩)]] 149 (0, 0))) ∧ Aside0 (w'.heap[bn]? = some (.cells #[.int .i64 n] 3 (0, 0))) ∧ Aside0 (w'.heap[ba]? = some (.cells #[.func (.func 85) #[] #[.pointer (some ⟨bn, 0, none⟩)]] 146 (0, 0))) ∧ Aside0 (Below w.heap.size w w'))
  case atStart => exact ⟨0, by omega, by simp, by omega, rfl, ⟨by simp⟩, Bbc, Bbn, Bba, HB⟩
  case round =>
    clear HB Bbc Bbn Bba
    obtain ⟨i, hi0, hn, hi, rfl, HE, Bbc, Bbn, Bba, HB⟩ := hrel
    have Hn := Aside0.mk hn
    clear hn
    have cbc_0 := cells1 Bbc.out; have cbn_0 := cells1 Bbn.out; have cba_0 := cells1 Bba.out; 
    by_cases hi' : i < xs.length
    · have HD : Aside0 (xs.drop i.toNat = (rd_T140 xs i) :: xs.drop (i + 1).toNat) := ⟨by
        rw [show (i + 1).toNat = i.toNat + 1 by omega, List.drop_eq_getElem_cons (by omega)]; unfold rd_T140; simp [List.getD_eq_getElem?_getD, List.getElem?_eq_getElem (show i.toNat < xs.length by omega)]⟩
      obtain ⟨ad, had, k0, k1, k2⟩ := at_T140 HR.out i hi0 hi'
      · skip
        replace k0 := pw_cell_below HB.out k0
        replace k1 := pw_cell_below HB.out k1
        replace k2 := pw_cell_below HB.out k2
        cases had
        cases hs : (leakE n) (rd_T140 xs i) == 0
        · have hsn : ((leakE n) (rd_T140 xs i) != 0) = true := by simpa using hs
          have HE2 : Aside0 (everyE (leakE n) xs = (leakE n) (rd_T140 xs i)) := ⟨by rw [HE.out, HD.out]; unfold everyE; rw [if_pos (by simpa using hs)]⟩
          go_wp2_with (first | ((with_reducible refine gate_dst (N := 4) rfl ?_); go_must (refine box_ev (N := 4) (cs := #[.int .i64 0, .int .i64 0, .int .i64 0]) (t := 140) (h := ?_); intro b4 hgb4 w2 hbox hb; have GEb4 := ge_new HB hgb4; have N_bc_b4 := ne_new Bbc hgb4; have N_bn_b4 := ne_new Bbn hgb4; have N_ba_b4 := ne_new Bba hgb4; replace HB := bel_b hb HB; replace Bbc := blk_b hb Bbc; (try clear cbc_0); have cbc_0 := cells1 Bbc.out; replace Bbn := blk_b hb Bbn; (try clear cbn_0); have cbn_0 := cells1 Bbn.out; replace Bba := blk_b hb Bba; (try clear cba_0); have cba_0 := cells1 Bba.out; have Bb4 := Aside0.mk hbox; clear hbox; obtain ⟨cb4_0, cb4_1, cb4_2⟩ := cells3 Bb4.out; (try clear hb); clear hgb4)) | ((with_reducible refine gate_store (t := 140) (p := 4) rfl ?_); go_must (refine row_ev b4 #[.int .i64 (rd_T140 xs i).f0, .int .i64 (rd_T140 xs i).f1.f0, .int .i64 (rd_T140 xs i).f1.f1] Bb4.out (h := ?_); intro w3 hbox ho_; replace HB := bel_o ho_ HB GEb4; replace Bbc := blk_o ho_ Bbc (by first | exact N_bc_b4.out | exact N_b4_bc.out.symm); (try clear cbc_0); have cbc_0 := cells1 Bbc.out; replace Bbn := blk_o ho_ Bbn (by first | exact N_bn_b4.out | exact N_b4_bn.out.symm); (try clear cbn_0); have cbn_0 := cells1 Bbn.out; replace Bba := blk_o ho_ Bba (by first | exact N_ba_b4.out | exact N_b4_ba.out.symm); (try clear cba_0); have cba_0 := cells1 Bba.out; replace Bb4 := Aside0.mk hbox; clear hbox ho_; (try clear cb4_0 cb4_1 cb4_2); obtain ⟨cb4_0, cb4_1, cb4_2⟩ := cells3 Bb4.out; )) | ((with_reducible refine gate_value (t := 12) rfl ?_); refine goes_v (some 14) Try.func90 (leak_any (rd_T140 xs i) ba bn n _ hn0.out hn1.out Bbn.out Bba.out) (h := ?_); rintro e w4 ⟨rfl, hb⟩; refine ⟨_, rfl, ?_⟩; replace HB := bel_b hb HB; replace Bbc := blk_b hb Bbc; (try clear cbc_0); have cbc_0 := cells1 Bbc.out; replace Bbn := blk_b hb Bbn; (try clear cbn_0); have cbn_0 := cells1 Bbn.out; replace Bba := blk_b hb Bba; (try clear cba_0); have cba_0 := cells1 Bba.out; replace Bb4 := blk_b hb Bb4; (try clear cb4_0 cb4_1 cb4_2); obtain ⟨cb4_0, cb4_1, cb4_2⟩ := cells3 Bb4.out; (try clear hb); ))
          go_ret
          exact ⟨by rw [HE2.out]; rfl, (bel_r HB)⟩
        · have hsn : ((leakE n) (rd_T140 xs i) != 0) = false := by simpa using hs
          have HE2 : Aside0 (everyE (leakE n) xs = everyE (leakE n) (xs.drop (i + 1).toNat)) := ⟨by rw [HE.out, HD.out]; conv => { lhs; unfold everyE }; rw [if_neg (by simpa using hs)]⟩
          go_wp2_with (first | ((with_reducible refine gate_dst (N := 4) rfl ?_); go_must (refine box_ev (N := 4) (cs := #[.int .i64 0, .int .i64 0, .int .i64 0]) (t := 140) (h := ?_); intro b4 hgb4 w2 hbox hb; have GEb4 := ge_new HB hgb4; have N_bc_b4 := ne_new Bbc hgb4; have N_bn_b4 := ne_new Bbn hgb4; have N_ba_b4 := ne_new Bba hgb4; replace HB := bel_b hb HB; replace Bbc := blk_b hb Bbc; (try clear cbc_0); have cbc_0 := cells1 Bbc.out; replace Bbn := blk_b hb Bbn; (try clear cbn_0); have cbn_0 := cells1 Bbn.out; replace Bba := blk_b hb Bba; (try clear cba_0); have cba_0 := cells1 Bba.out; have Bb4 := Aside0.mk hbox; clear hbox; obtain ⟨cb4_0, cb4_1, cb4_2⟩ := cells3 Bb4.out; (try clear hb); clear hgb4)) | ((with_reducible refine gate_store (t := 140) (p := 4) rfl ?_); go_must (refine row_ev b4 #[.int .i64 (rd_T140 xs i).f0, .int .i64 (rd_T140 xs i).f1.f0, .int .i64 (rd_T140 xs i).f1.f1] Bb4.out (h := ?_); intro w3 hbox ho_; replace HB := bel_o ho_ HB GEb4; replace Bbc := blk_o ho_ Bbc (by first | exact N_bc_b4.out | exact N_b4_bc.out.symm); (try clear cbc_0); have cbc_0 := cells1 Bbc.out; replace Bbn := blk_o ho_ Bbn (by first | exact N_bn_b4.out | exact N_b4_bn.out.symm); (try clear cbn_0); have cbn_0 := cells1 Bbn.out; replace Bba := blk_o ho_ Bba (by first | exact N_ba_b4.out | exact N_b4_ba.out.symm); (try clear cba_0); have cba_0 := cells1 Bba.out; replace Bb4 := Aside0.mk hbox; clear hbox ho_; (try clear cb4_0 cb4_1 cb4_2); obtain ⟨cb4_0, cb4_1, cb4_2⟩ := cells3 Bb4.out; )) | ((with_reducible refine gate_value (t := 12) rfl ?_); refine goes_v (some 14) Try.func90 (leak_any (rd_T140 xs i) ba bn n _ hn0.out hn1.out Bbn.out Bba.out) (h := ?_); rintro e w4 ⟨rfl, hb⟩; refine ⟨_, rfl, ?_⟩; replace HB := bel_b hb HB; replace Bbc := blk_b hb Bbc; (try clear cbc_0); have cbc_0 := cells1 Bbc.out; replace Bbn := blk_b hb Bbn; (try clear cbn_0); have cbn_0 := cells1 Bbn.out; replace Bba := blk_b hb Bba; (try clear cba_0); have cba_0 := cells1 Bba.out; replace Bb4 := blk_b hb Bb4; (try clear cb4_0 cb4_1 cb4_2); obtain ⟨cb4_0, cb4_1, cb4_2⟩ := cells3 Bb4.out; (try clear hb); ))
          go_roundg (xs.length - (i + 1).toNat)
          case measure => have := Hn.out; omega
          case rel => exact ⟨i + 1, by omega, rfl, by omega, rfl, HE2, ⟨Bbc.out⟩, ⟨Bbn.out⟩, ⟨Bba.out⟩, ⟨(bel_r HB)⟩⟩
    · have HE1 : Aside0 (everyE (leakE n) xs = 0) := ⟨by rw [HE.out, List.drop_eq_nil_of_le (by omega)]; rfl⟩
      go_wp2
      go_ret
      exact ⟨by rw [HE1.out]; rfl, (bel_r HB)⟩
set_option maxHeartbeats 4000000 in
set_option maxRecDepth 100000 in
theorem every_getter (xs : List S142) (A : Option Addr) (c : Nat) (bl bc : Nat) (ba bn : Nat) (n : Int) (w : World) (hr : Kd.C k142 w A xs.length xs) (hc : xs.length ≤ c) (hlen : xs.length ≤ 100) (hbl : w.heap[bl]? = some (.cells #[.slice A xs.length c] 27 (0, 0))) (hbc : w.heap[bc]? = some (.cells #[.func (.func 91) #[] #[.pointer (some ⟨ba, 0, none⟩)]] 150 (0, 0))) (h0 : 0 ≤ n) (h1 : n ≤ 140737488355328) (hbn : w.heap[bn]? = some (.cells #[.int .i64 n] 3 (0, 0))) (hba : w.heap[ba]? = some (.cells #[.func (.func 85) #[] #[.pointer (some ⟨bn, 0, none⟩)]] 146 (0, 0))) :
    Calls Try.prog 126 #[.pointer (some ⟨bl, 0, none⟩), .pointer (some ⟨bc, 0, none⟩)] w fun e w' => e = .returned (.int .i64 (everyE (getterE n) xs)) ∧ Below w.heap.size w w' := by
  have HR := Aside0.mk hr
  have HC := Aside0.mk hc
  clear hr hc
  have Bbl := Aside0.mk hbl
  have Bbc := Aside0.mk hbc
  clear hbl hbc
  have hn0 := Aside0.mk h0
  have hn1 := Aside0.mk h1
  have Bbn := Aside0.mk hbn
  clear h0 h1 hbn
  have Bba := Aside0.mk hba
  clear hba
  have HB := Aside0.mk (Below.refl w.heap.size w)
  go_enter Try.func126, Try.ntmps126
  have cbl_0 := cells1 Bbl.out; 
  go_wp2
  clear cbl_0
  go_loopg [8] (xs.length) (fun k v8 w' => ∃ i : Int, 0 ≤ i ∧ k = xs.length - i.toNat ∧ i ≤ xs.length ∧ v8 = .int .i64 i ∧ Aside0 (everyE (getterE n) xs = everyE (getterE n) (xs.drop i.toNat)) ∧ Aside0 (w'.heap[bc]? = some (.cells #[.func (.func 91) #[] #[.pointer (some ⟨ba, 0, none⟩)]] 150 (0, 0))) ∧ Aside0 (w'.heap[bn]? = some (.cells #[.int .i64 n] 3 (0, 0))) ∧ Aside0 (w'.heap[ba]? = some (.cells #[.func (.func 85) #[] #[.pointer (some ⟨bn, 0, none⟩)]] 146 (0, 0))) ∧ Aside0 (Below w.heap.size w w'))
  case atStart => exact ⟨0, by omega, by simp, by omega, rfl, ⟨by simp⟩, Bbc, Bbn, Bba, HB⟩
  case round =>
    clear HB Bbc Bbn Bba
    obtain ⟨i, hi0, hn, hi, rfl, HE, Bbc, Bbn, Bba, HB⟩ := hrel
    have Hn := Aside0.mk hn
    clear hn
    have cbc_0 := cells1 Bbc.out; have cbn_0 := cells1 Bbn.out; have cba_0 := cells1 Bba.out; 
    by_cases hi' : i < xs.length
    · have HD : Aside0 (xs.drop i.toNat = (rd_T142 xs i) :: xs.drop (i + 1).toNat) := ⟨by
        rw [show (i + 1).toNat = i.toNat + 1 by omega, List.drop_eq_getElem_cons (by omega)]; unfold rd_T142; simp [List.getD_eq_getElem?_getD, List.getElem?_eq_getElem (show i.toNat < xs.length by omega)]⟩
      obtain ⟨ad, had, k0, k1, k2, k3, k4⟩ := at_T142 HR.out i hi0 hi'
      · skip
        replace k0 := pw_cell_below HB.out k0
        replace k1 := pw_cell_below HB.out k1
        replace k2 := pw_cell_below HB.out k2
        replace k3 := pw_cell_below HB.out k3
        replace k4 := pw_cell_below HB.out k4
        cases had
        cases hs : (getterE n) (rd_T142 xs i) == 0
        · have hsn : ((getterE n) (rd_T142 xs i) != 0) = true := by simpa using hs
          have HE2 : Aside0 (everyE (getterE n) xs = (getterE n) (rd_T142 xs i)) := ⟨by rw [HE.out, HD.out]; unfold everyE; rw [if_pos (by simpa using hs)]⟩
          go_wp2_with (first | ((with_reducible refine gate_dst (N := 4) rfl ?_); go_must (refine box_ev (N := 4) (cs := #[.int .i64 0, .int .i64 0, .int .i64 0, .int .i64 0, .int .i64 0]) (t := 142) (h := ?_); intro b4 hgb4 w2 hbox hb; have GEb4 := ge_new HB hgb4; have N_bc_b4 := ne_new Bbc hgb4; have N_bn_b4 := ne_new Bbn hgb4; have N_ba_b4 := ne_new Bba hgb4; replace HB := bel_b hb HB; replace Bbc := blk_b hb Bbc; (try clear cbc_0); have cbc_0 := cells1 Bbc.out; replace Bbn := blk_b hb Bbn; (try clear cbn_0); have cbn_0 := cells1 Bbn.out; replace Bba := blk_b hb Bba; (try clear cba_0); have cba_0 := cells1 Bba.out; have Bb4 := Aside0.mk hbox; clear hbox; obtain ⟨cb4_0, cb4_1, cb4_2, cb4_3, cb4_4⟩ := cells5 Bb4.out; (try clear hb); clear hgb4)) | ((with_reducible refine gate_store (t := 142) (p := 4) rfl ?_); go_must (refine row_ev b4 #[.int .i64 (rd_T142 xs i).f0, .int .i64 (rd_T142 xs i).f1.f0, .int .i64 (rd_T142 xs i).f1.f1, .int .i64 (rd_T142 xs i).f2.f0, .int .i64 (rd_T142 xs i).f2.f1] Bb4.out (h := ?_); intro w3 hbox ho_; replace HB := bel_o ho_ HB GEb4; replace Bbc := blk_o ho_ Bbc (by first | exact N_bc_b4.out | exact N_b4_bc.out.symm); (try clear cbc_0); have cbc_0 := cells1 Bbc.out; replace Bbn := blk_o ho_ Bbn (by first | exact N_bn_b4.out | exact N_b4_bn.out.symm); (try clear cbn_0); have cbn_0 := cells1 Bbn.out; replace Bba := blk_o ho_ Bba (by first | exact N_ba_b4.out | exact N_b4_ba.out.symm); (try clear cba_0); have cba_0 := cells1 Bba.out; replace Bb4 := Aside0.mk hbox; clear hbox ho_; (try clear cb4_0 cb4_1 cb4_2 cb4_3 cb4_4); obtain ⟨cb4_0, cb4_1, cb4_2, cb4_3, cb4_4⟩ := cells5 Bb4.out; )) | ((with_reducible refine gate_value (t := 12) rfl ?_); refine goes_v (some 14) Try.func91 (getter_any (rd_T142 xs i) ba bn n _ hn0.out hn1.out Bbn.out Bba.out) (h := ?_); rintro e w4 ⟨rfl, hb⟩; refine ⟨_, rfl, ?_⟩; replace HB := bel_b hb HB; replace Bbc := blk_b hb Bbc; (try clear cbc_0); have cbc_0 := cells1 Bbc.out; replace Bbn := blk_b hb Bbn; (try clear cbn_0); have cbn_0 := cells1 Bbn.out; replace Bba := blk_b hb Bba; (try clear cba_0); have cba_0 := cells1 Bba.out; replace Bb4 := blk_b hb Bb4; (try clear cb4_0 cb4_1 cb4_2 cb4_3 cb4_4); obtain ⟨cb4_0, cb4_1, cb4_2, cb4_3, cb4_4⟩ := cells5 Bb4.out; (try clear hb); ))
          go_ret
          exact ⟨by rw [HE2.out]; rfl, (bel_r HB)⟩
        · have hsn : ((getterE n) (rd_T142 xs i) != 0) = false := by simpa using hs
          have HE2 : Aside0 (everyE (getterE n) xs = everyE (getterE n) (xs.drop (i + 1).toNat)) := ⟨by rw [HE.out, HD.out]; conv => { lhs; unfold everyE }; rw [if_neg (by simpa using hs)]⟩
          go_wp2_with (first | ((with_reducible refine gate_dst (N := 4) rfl ?_); go_must (refine box_ev (N := 4) (cs := #[.int .i64 0, .int .i64 0, .int .i64 0, .int .i64 0, .int .i64 0]) (t := 142) (h := ?_); intro b4 hgb4 w2 hbox hb; have GEb4 := ge_new HB hgb4; have N_bc_b4 := ne_new Bbc hgb4; have N_bn_b4 := ne_new Bbn hgb4; have N_ba_b4 := ne_new Bba hgb4; replace HB := bel_b hb HB; replace Bbc := blk_b hb Bbc; (try clear cbc_0); have cbc_0 := cells1 Bbc.out; replace Bbn := blk_b hb Bbn; (try clear cbn_0); have cbn_0 := cells1 Bbn.out; replace Bba := blk_b hb Bba; (try clear cba_0); have cba_0 := cells1 Bba.out; have Bb4 := Aside0.mk hbox; clear hbox; obtain ⟨cb4_0, cb4_1, cb4_2, cb4_3, cb4_4⟩ := cells5 Bb4.out; (try clear hb); clear hgb4)) | ((with_reducible refine gate_store (t := 142) (p := 4) rfl ?_); go_must (refine row_ev b4 #[.int .i64 (rd_T142 xs i).f0, .int .i64 (rd_T142 xs i).f1.f0, .int .i64 (rd_T142 xs i).f1.f1, .int .i64 (rd_T142 xs i).f2.f0, .int .i64 (rd_T142 xs i).f2.f1] Bb4.out (h := ?_); intro w3 hbox ho_; replace HB := bel_o ho_ HB GEb4; replace Bbc := blk_o ho_ Bbc (by first | exact N_bc_b4.out | exact N_b4_bc.out.symm); (try clear cbc_0); have cbc_0 := cells1 Bbc.out; replace Bbn := blk_o ho_ Bbn (by first | exact N_bn_b4.out | exact N_b4_bn.out.symm); (try clear cbn_0); have cbn_0 := cells1 Bbn.out; replace Bba := blk_o ho_ Bba (by first | exact N_ba_b4.out | exact N_b4_ba.out.symm); (try clear cba_0); have cba_0 := cells1 Bba.out; replace Bb4 := Aside0.mk hbox; clear hbox ho_; (try clear cb4_0 cb4_1 cb4_2 cb4_3 cb4_4); obtain ⟨cb4_0, cb4_1, cb4_2, cb4_3, cb4_4⟩ := cells5 Bb4.out; )) | ((with_reducible refine gate_value (t := 12) rfl ?_); refine goes_v (some 14) Try.func91 (getter_any (rd_T142 xs i) ba bn n _ hn0.out hn1.out Bbn.out Bba.out) (h := ?_); rintro e w4 ⟨rfl, hb⟩; refine ⟨_, rfl, ?_⟩; replace HB := bel_b hb HB; replace Bbc := blk_b hb Bbc; (try clear cbc_0); have cbc_0 := cells1 Bbc.out; replace Bbn := blk_b hb Bbn; (try clear cbn_0); have cbn_0 := cells1 Bbn.out; replace Bba := blk_b hb Bba; (try clear cba_0); have cba_0 := cells1 Bba.out; replace Bb4 := blk_b hb Bb4; (try clear cb4_0 cb4_1 cb4_2 cb4_3 cb4_4); obtain ⟨cb4_0, cb4_1, cb4_2, cb4_3, cb4_4⟩ := cells5 Bb4.out; (try clear hb); ))
          go_roundg (xs.length - (i + 1).toNat)
          case measure => have := Hn.out; omega
          case rel => exact ⟨i + 1, by omega, rfl, by omega, rfl, HE2, ⟨Bbc.out⟩, ⟨Bbn.out⟩, ⟨Bba.out⟩, ⟨(bel_r HB)⟩⟩
    · have HE1 : Aside0 (everyE (getterE n) xs = 0) := ⟨by rw [HE.out, List.drop_eq_nil_of_le (by omega)]; rfl⟩
      go_wp2
      go_ret
      exact ⟨by rw [HE1.out]; rfl, (bel_r HB)⟩
end Go.Proofs.Ytkhnhkjihhhbbaa.P

namespace Go.Proofs.Ytkhnhkjihhhbbaa.P
open Go.RowKit Go.Proofs.YtkhnhkjihhhbbaaW.PrintWords Go.Proofs.YtkhnhkjihhhbbaaW.PrintLast Go.Proofs.YtkhnhkjihhhbbaaW.PrintMore
set_option linter.unusedVariables false
set_option linter.unusedSimpArgs false
def Made (f t1 t2 : Nat) (u v : Value) (w : World) (e : Ending) (w' : World) : Prop :=
  ∃ b1 b2, e = .returned (.func (.func f) #[] #[.pointer (some ⟨b1, 0, none⟩), .pointer (some ⟨b2, 0, none⟩)]) ∧ w.heap.size ≤ b1 ∧ w.heap.size ≤ b2 ∧ Aside0 (w'.heap[b1]? = some (.cells #[u] t1 (0, 0))) ∧ Aside0 (w'.heap[b2]? = some (.cells #[v] t2 (0, 0))) ∧ Below w.heap.size w w'
set_option maxHeartbeats 4000000 in
set_option maxRecDepth 100000 in
theorem mk_vessel (A : Option Addr) (n c : Nat) (fn : Fn) (fcap : Array Value) (w : World) :
    Calls Try.prog 93 #[.slice A n c, .func fn #[] fcap] w (Made 122 23 154 (.slice A n c) (.func fn #[] fcap) w) := by
  have HB := Aside0.mk (Below.refl w.heap.size w)
  obtain ⟨v, hv⟩ : ∃ v, v = Value.slice A n c := ⟨_, rfl⟩
  obtain ⟨fv, hfv⟩ : ∃ fv, fv = Value.func fn #[] fcap := ⟨_, rfl⟩
  have hvc : (Value.slice A n c).cells = #[.slice A n c] := rfl
  have hfc : (Value.func fn #[] fcap).cells = #[.func fn #[] fcap] := rfl
  clear hvc hfc
  have hmf : ∀ (fn : Fn) (first cap : Array Value) (w : World), (Instr.makeFunc fn first cap).run Try.prog w = .ok (.func fn first cap) w := fun _ _ _ _ => rfl
  go_enter Try.func93, Try.ntmps93
  go_wp2_with (first | ((with_reducible refine gate_dst (N := 2) rfl ?_); go_must (refine box_ev (N := 2) (cs := #[.slice A n c]) (t := 23) (h := ?_); intro b1 hgb1 w1 hbox hb; have GEb1 := ge_new HB hgb1; replace HB := bel_b hb HB; have Bb1 := Aside0.mk hbox; clear hbox; have cb1_0 := cells1 Bb1.out; (try clear hb); clear hgb1)) | ((with_reducible refine gate_dst (N := 3) rfl ?_); go_must (refine box_ev (N := 3) (cs := #[.func fn #[] fcap]) (t := 154) (h := ?_); intro b2 hgb2 w2 hbox hb; have GEb2 := ge_new HB hgb2; have N_b1_b2 := ne_new Bb1 hgb2; replace HB := bel_b hb HB; replace Bb1 := blk_b hb Bb1; (try clear cb1_0); have cb1_0 := cells1 Bb1.out; have Bb2 := Aside0.mk hbox; clear hbox; have cb2_0 := cells1 Bb2.out; (try clear hb); clear hgb2)))
  go_ret
  exact ⟨b1, b2, rfl, GEb1.out, GEb2.out, ⟨Bb1.out⟩, ⟨Bb2.out⟩, (bel_r HB)⟩
set_option maxHeartbeats 4000000 in
set_option maxRecDepth 100000 in
theorem mk_pipe (A : Option Addr) (n c : Nat) (fn : Fn) (fcap : Array Value) (w : World) :
    Calls Try.prog 95 #[.slice A n c, .func fn #[] fcap] w (Made 123 24 147 (.slice A n c) (.func fn #[] fcap) w) := by
  have HB := Aside0.mk (Below.refl w.heap.size w)
  obtain ⟨v, hv⟩ : ∃ v, v = Value.slice A n c := ⟨_, rfl⟩
  obtain ⟨fv, hfv⟩ : ∃ fv, fv = Value.func fn #[] fcap := ⟨_, rfl⟩
  have hvc : (Value.slice A n c).cells = #[.slice A n c] := rfl
  have hfc : (Value.func fn #[] fcap).cells = #[.func fn #[] fcap] := rfl
  clear hvc hfc
  have hmf : ∀ (fn : Fn) (first cap : Array Value) (w : World), (Instr.makeFunc fn first cap).run Try.prog w = .ok (.func fn first cap) w := fun _ _ _ _ => rfl
  go_enter Try.func95, Try.ntmps95
  go_wp2_with (first | ((with_reducible refine gate_dst (N := 2) rfl ?_); go_must (refine box_ev (N := 2) (cs := #[.slice A n c]) (t := 24) (h := ?_); intro b1 hgb1 w1 hbox hb; have GEb1 := ge_new HB hgb1; replace HB := bel_b hb HB; have Bb1 := Aside0.mk hbox; clear hbox; have cb1_0 := cells1 Bb1.out; (try clear hb); clear hgb1)) | ((with_reducible refine gate_dst (N := 3) rfl ?_); go_must (refine box_ev (N := 3) (cs := #[.func fn #[] fcap]) (t := 147) (h := ?_); intro b2 hgb2 w2 hbox hb; have GEb2 := ge_new HB hgb2; have N_b1_b2 := ne_new Bb1 hgb2; replace HB := bel_b hb HB; replace Bb1 := blk_b hb Bb1; (try clear cb1_0); have cb1_0 := cells1 Bb1.out; have Bb2 := Aside0.mk hbox; clear hbox; have cb2_0 := cells1 Bb2.out; (try clear hb); clear hgb2)))
  go_ret
  exact ⟨b1, b2, rfl, GEb1.out, GEb2.out, ⟨Bb1.out⟩, ⟨Bb2.out⟩, (bel_r HB)⟩
set_option maxHeartbeats 4000000 in
set_option maxRecDepth 100000 in
theorem mk_pump (A : Option Addr) (n c : Nat) (fn : Fn) (fcap : Array Value) (w : World) :
    Calls Try.prog 96 #[.slice A n c, .func fn #[] fcap] w (Made 124 25 148 (.slice A n c) (.func fn #[] fcap) w) := by
  have HB := Aside0.mk (Below.refl w.heap.size w)
  obtain ⟨v, hv⟩ : ∃ v, v = Value.slice A n c := ⟨_, rfl⟩
  obtain ⟨fv, hfv⟩ : ∃ fv, fv = Value.func fn #[] fcap := ⟨_, rfl⟩
  have hvc : (Value.slice A n c).cells = #[.slice A n c] := rfl
  have hfc : (Value.func fn #[] fcap).cells = #[.func fn #[] fcap] := rfl
  clear hvc hfc
  have hmf : ∀ (fn : Fn) (first cap : Array Value) (w : World), (Instr.makeFunc fn first cap).run Try.prog w = .ok (.func fn first cap) w := fun _ _ _ _ => rfl
  go_enter Try.func96, Try.ntmps96
  go_wp2_with (first | ((with_reducible refine gate_dst (N := 2) rfl ?_); go_must (refine box_ev (N := 2) (cs := #[.slice A n c]) (t := 25) (h := ?_); intro b1 hgb1 w1 hbox hb; have GEb1 := ge_new HB hgb1; replace HB := bel_b hb HB; have Bb1 := Aside0.mk hbox; clear hbox; have cb1_0 := cells1 Bb1.out; (try clear hb); clear hgb1)) | ((with_reducible refine gate_dst (N := 3) rfl ?_); go_must (refine box_ev (N := 3) (cs := #[.func fn #[] fcap]) (t := 148) (h := ?_); intro b2 hgb2 w2 hbox hb; have GEb2 := ge_new HB hgb2; have N_b1_b2 := ne_new Bb1 hgb2; replace HB := bel_b hb HB; replace Bb1 := blk_b hb Bb1; (try clear cb1_0); have cb1_0 := cells1 Bb1.out; have Bb2 := Aside0.mk hbox; clear hbox; have cb2_0 := cells1 Bb2.out; (try clear hb); clear hgb2)))
  go_ret
  exact ⟨b1, b2, rfl, GEb1.out, GEb2.out, ⟨Bb1.out⟩, ⟨Bb2.out⟩, (bel_r HB)⟩
set_option maxHeartbeats 4000000 in
set_option maxRecDepth 100000 in
theorem mk_leak (A : Option Addr) (n c : Nat) (fn : Fn) (fcap : Array Value) (w : World) :
    Calls Try.prog 97 #[.slice A n c, .func fn #[] fcap] w (Made 125 26 149 (.slice A n c) (.func fn #[] fcap) w) := by
  have HB := Aside0.mk (Below.refl w.heap.size w)
  obtain ⟨v, hv⟩ : ∃ v, v = Value.slice A n c := ⟨_, rfl⟩
  obtain ⟨fv, hfv⟩ : ∃ fv, fv = Value.func fn #[] fcap := ⟨_, rfl⟩
  have hvc : (Value.slice A n c).cells = #[.slice A n c] := rfl
  have hfc : (Value.func fn #[] fcap).cells = #[.func fn #[] fcap] := rfl
  clear hvc hfc
  have hmf : ∀ (fn : Fn) (first cap : Array Value) (w : World), (Instr.makeFunc fn first cap).run Try.prog w = .ok (.func fn first cap) w := fun _ _ _ _ => rfl
  go_enter Try.func97, Try.ntmps97
  go_wp2_with (first | ((with_reducible refine gate_dst (N := 2) rfl ?_); go_must (refine box_ev (N := 2) (cs := #[.slice A n c]) (t := 26) (h := ?_); intro b1 hgb1 w1 hbox hb; have GEb1 := ge_new HB hgb1; replace HB := bel_b hb HB; have Bb1 := Aside0.mk hbox; clear hbox; have cb1_0 := cells1 Bb1.out; (try clear hb); clear hgb1)) | ((with_reducible refine gate_dst (N := 3) rfl ?_); go_must (refine box_ev (N := 3) (cs := #[.func fn #[] fcap]) (t := 149) (h := ?_); intro b2 hgb2 w2 hbox hb; have GEb2 := ge_new HB hgb2; have N_b1_b2 := ne_new Bb1 hgb2; replace HB := bel_b hb HB; replace Bb1 := blk_b hb Bb1; (try clear cb1_0); have cb1_0 := cells1 Bb1.out; have Bb2 := Aside0.mk hbox; clear hbox; have cb2_0 := cells1 Bb2.out; (try clear hb); clear hgb2)))
  go_ret
  exact ⟨b1, b2, rfl, GEb1.out, GEb2.out, ⟨Bb1.out⟩, ⟨Bb2.out⟩, (bel_r HB)⟩
set_option maxHeartbeats 4000000 in
set_option maxRecDepth 100000 in
theorem mk_getter (A : Option Addr) (n c : Nat) (fn : Fn) (fcap : Array Value) (w : World) :
    Calls Try.prog 98 #[.slice A n c, .func fn #[] fcap] w (Made 126 27 150 (.slice A n c) (.func fn #[] fcap) w) := by
  have HB := Aside0.mk (Below.refl w.heap.size w)
  obtain ⟨v, hv⟩ : ∃ v, v = Value.slice A n c := ⟨_, rfl⟩
  obtain ⟨fv, hfv⟩ : ∃ fv, fv = Value.func fn #[] fcap := ⟨_, rfl⟩
  have hvc : (Value.slice A n c).cells = #[.slice A n c] := rfl
  have hfc : (Value.func fn #[] fcap).cells = #[.func fn #[] fcap] := rfl
  clear hvc hfc
  have hmf : ∀ (fn : Fn) (first cap : Array Value) (w : World), (Instr.makeFunc fn first cap).run Try.prog w = .ok (.func fn first cap) w := fun _ _ _ _ => rfl
  go_enter Try.func98, Try.ntmps98
  go_wp2_with (first | ((with_reducible refine gate_dst (N := 2) rfl ?_); go_must (refine box_ev (N := 2) (cs := #[.slice A n c]) (t := 27) (h := ?_); intro b1 hgb1 w1 hbox hb; have GEb1 := ge_new HB hgb1; replace HB := bel_b hb HB; have Bb1 := Aside0.mk hbox; clear hbox; have cb1_0 := cells1 Bb1.out; (try clear hb); clear hgb1)) | ((with_reducible refine gate_dst (N := 3) rfl ?_); go_must (refine box_ev (N := 3) (cs := #[.func fn #[] fcap]) (t := 150) (h := ?_); intro b2 hgb2 w2 hbox hb; have GEb2 := ge_new HB hgb2; have N_b1_b2 := ne_new Bb1 hgb2; replace HB := bel_b hb HB; replace Bb1 := blk_b hb Bb1; (try clear cb1_0); have cb1_0 := cells1 Bb1.out; have Bb2 := Aside0.mk hbox; clear hbox; have cb2_0 := cells1 Bb2.out; (try clear hb); clear hgb2)))
  go_ret
  exact ⟨b1, b2, rfl, GEb1.out, GEb2.out, ⟨Bb1.out⟩, ⟨Bb2.out⟩, (bel_r HB)⟩
/-- The first of some errors. -/
def firstE : List Int → Int
  | [] => 0
  | x :: l => if x ≠ 0 then x else firstE l
set_option maxHeartbeats 4000000 in
set_option maxRecDepth 100000 in
theorem first_any (e1 e2 e3 e4 e5 : Int) (c1 c2 c3 c4 c5 : Array Value) (bs : Nat) (w : World) (hbs : w.heap[bs]? = some (.cells #[.func (.func 122) #[] c1, .func (.func 123) #[] c2, .func (.func 124) #[] c3, .func (.func 125) #[] c4, .func (.func 126) #[] c5] 152 (0, 0)))
    (h1 : ∀ W, Below w.heap.size w W → Calls Try.prog 122 c1 W fun e w' => e = .returned (.int .i64 e1) ∧ Below W.heap.size W w')
    (h2 : ∀ W, Below w.heap.size w W → Calls Try.prog 123 c2 W fun e w' => e = .returned (.int .i64 e2) ∧ Below W.heap.size W w')
    (h3 : ∀ W, Below w.heap.size w W → Calls Try.prog 124 c3 W fun e w' => e = .returned (.int .i64 e3) ∧ Below W.heap.size W w')
    (h4 : ∀ W, Below w.heap.size w W → Calls Try.prog 125 c4 W fun e w' => e = .returned (.int .i64 e4) ∧ Below W.heap.size W w')
    (h5 : ∀ W, Below w.heap.size w W → Calls Try.prog 126 c5 W fun e w' => e = .returned (.int .i64 e5) ∧ Below W.heap.size W w') :
    Calls Try.prog 92 #[.slice (some ⟨bs, 0, none⟩) 5 5] w fun e w' => e = .returned (.int .i64 (firstE [e1, e2, e3, e4, e5])) ∧ Below w.heap.size w w' := by
  have Bbs := Aside0.mk hbs
  clear hbs
  have H1 := Aside0.mk h1
  have H2 := Aside0.mk h2
  have H3 := Aside0.mk h3
  have H4 := Aside0.mk h4
  have H5 := Aside0.mk h5
  clear h1 h2 h3 h4 h5
  have HB := Aside0.mk (Below.refl w.heap.size w)
  go_enter Try.func92, Try.ntmps92
  obtain ⟨cbs_0, cbs_1, cbs_2, cbs_3, cbs_4⟩ := cells5 Bbs.out; 
  go_wp2
  refine wp_loop_rounds 6 ?_
  rw [rounds_succ]
  cases hs1 : e1 == 0
  · have hn1 : (e1 != 0) = true := by simpa using hs1
    go_wp2_with (first | ((with_reducible refine gate_value (t := 12) rfl ?_); refine goes_v (some 13) Try.func122 (H1.out _ HB.out) (h := ?_); rintro e w1 ⟨rfl, hb⟩; refine ⟨_, rfl, ?_⟩; replace HB := bel_b hb HB; replace Bbs := blk_b hb Bbs; (try clear cbs_0 cbs_1 cbs_2 cbs_3 cbs_4); obtain ⟨cbs_0, cbs_1, cbs_2, cbs_3, cbs_4⟩ := cells5 Bbs.out; (try clear hb); ))
    go_ret
    exact ⟨by rw [show firstE [e1, e2, e3, e4, e5] = e1 from by simp [firstE, (by simpa using hs1 : e1 ≠ 0)]]; rfl, (bel_r HB)⟩
  · have hn1 : (e1 != 0) = false := by simpa using hs1
    have Z1 : Aside0 (e1 = 0) := ⟨by simpa using hs1⟩
    go_wp2_with (first | ((with_reducible refine gate_value (t := 12) rfl ?_); refine goes_v (some 13) Try.func122 (H1.out _ HB.out) (h := ?_); rintro e w1 ⟨rfl, hb⟩; refine ⟨_, rfl, ?_⟩; replace HB := bel_b hb HB; replace Bbs := blk_b hb Bbs; (try clear cbs_0 cbs_1 cbs_2 cbs_3 cbs_4); obtain ⟨cbs_0, cbs_1, cbs_2, cbs_3, cbs_4⟩ := cells5 Bbs.out; (try clear hb); ))
    rw [rounds_succ]
    cases hs2 : e2 == 0
    · have hn2 : (e2 != 0) = true := by simpa using hs2
      go_wp2_with (first | ((with_reducible refine gate_value (t := 12) rfl ?_); refine goes_v (some 13) Try.func123 (H2.out _ HB.out) (h := ?_); rintro e w2 ⟨rfl, hb⟩; refine ⟨_, rfl, ?_⟩; replace HB := bel_b hb HB; replace Bbs := blk_b hb Bbs; (try clear cbs_0 cbs_1 cbs_2 cbs_3 cbs_4); obtain ⟨cbs_0, cbs_1, cbs_2, cbs_3, cbs_4⟩ := cells5 Bbs.out; (try clear hb); ))
      go_ret
      exact ⟨by rw [show firstE [e1, e2, e3, e4, e5] = e2 from by simp [firstE, Z1.out, (by simpa using hs2 : e2 ≠ 0)]]; rfl, (bel_r HB)⟩
    · have hn2 : (e2 != 0) = false := by simpa using hs2
      have Z2 : Aside0 (e2 = 0) := ⟨by simpa using hs2⟩
      go_wp2_with (first | ((with_reducible refine gate_value (t := 12) rfl ?_); refine goes_v (some 13) Try.func123 (H2.out _ HB.out) (h := ?_); rintro e w2 ⟨rfl, hb⟩; refine ⟨_, rfl, ?_⟩; replace HB := bel_b hb HB; replace Bbs := blk_b hb Bbs; (try clear cbs_0 cbs_1 cbs_2 cbs_3 cbs_4); obtain ⟨cbs_0, cbs_1, cbs_2, cbs_3, cbs_4⟩ := cells5 Bbs.out; (try clear hb); ))
      rw [rounds_succ]
      cases hs3 : e3 == 0
      · have hn3 : (e3 != 0) = true := by simpa using hs3
        go_wp2_with (first | ((with_reducible refine gate_value (t := 12) rfl ?_); refine goes_v (some 13) Try.func124 (H3.out _ HB.out) (h := ?_); rintro e w3 ⟨rfl, hb⟩; refine ⟨_, rfl, ?_⟩; replace HB := bel_b hb HB; replace Bbs := blk_b hb Bbs; (try clear cbs_0 cbs_1 cbs_2 cbs_3 cbs_4); obtain ⟨cbs_0, cbs_1, cbs_2, cbs_3, cbs_4⟩ := cells5 Bbs.out; (try clear hb); ))
        go_ret
        exact ⟨by rw [show firstE [e1, e2, e3, e4, e5] = e3 from by simp [firstE, Z1.out, Z2.out, (by simpa using hs3 : e3 ≠ 0)]]; rfl, (bel_r HB)⟩
      · have hn3 : (e3 != 0) = false := by simpa using hs3
        have Z3 : Aside0 (e3 = 0) := ⟨by simpa using hs3⟩
        go_wp2_with (first | ((with_reducible refine gate_value (t := 12) rfl ?_); refine goes_v (some 13) Try.func124 (H3.out _ HB.out) (h := ?_); rintro e w3 ⟨rfl, hb⟩; refine ⟨_, rfl, ?_⟩; replace HB := bel_b hb HB; replace Bbs := blk_b hb Bbs; (try clear cbs_0 cbs_1 cbs_2 cbs_3 cbs_4); obtain ⟨cbs_0, cbs_1, cbs_2, cbs_3, cbs_4⟩ := cells5 Bbs.out; (try clear hb); ))
        rw [rounds_succ]
        cases hs4 : e4 == 0
        · have hn4 : (e4 != 0) = true := by simpa using hs4
          go_wp2_with (first | ((with_reducible refine gate_value (t := 12) rfl ?_); refine goes_v (some 13) Try.func125 (H4.out _ HB.out) (h := ?_); rintro e w4 ⟨rfl, hb⟩; refine ⟨_, rfl, ?_⟩; replace HB := bel_b hb HB; replace Bbs := blk_b hb Bbs; (try clear cbs_0 cbs_1 cbs_2 cbs_3 cbs_4); obtain ⟨cbs_0, cbs_1, cbs_2, cbs_3, cbs_4⟩ := cells5 Bbs.out; (try clear hb); ))
          go_ret
          exact ⟨by rw [show firstE [e1, e2, e3, e4, e5] = e4 from by simp [firstE, Z1.out, Z2.out, Z3.out, (by simpa using hs4 : e4 ≠ 0)]]; rfl, (bel_r HB)⟩
        · have hn4 : (e4 != 0) = false := by simpa using hs4
          have Z4 : Aside0 (e4 = 0) := ⟨by simpa using hs4⟩
          go_wp2_with (first | ((with_reducible refine gate_value (t := 12) rfl ?_); refine goes_v (some 13) Try.func125 (H4.out _ HB.out) (h := ?_); rintro e w4 ⟨rfl, hb⟩; refine ⟨_, rfl, ?_⟩; replace HB := bel_b hb HB; replace Bbs := blk_b hb Bbs; (try clear cbs_0 cbs_1 cbs_2 cbs_3 cbs_4); obtain ⟨cbs_0, cbs_1, cbs_2, cbs_3, cbs_4⟩ := cells5 Bbs.out; (try clear hb); ))
          rw [rounds_succ]
          cases hs5 : e5 == 0
          · have hn5 : (e5 != 0) = true := by simpa using hs5
            go_wp2_with (first | ((with_reducible refine gate_value (t := 12) rfl ?_); refine goes_v (some 13) Try.func126 (H5.out _ HB.out) (h := ?_); rintro e w5 ⟨rfl, hb⟩; refine ⟨_, rfl, ?_⟩; replace HB := bel_b hb HB; replace Bbs := blk_b hb Bbs; (try clear cbs_0 cbs_1 cbs_2 cbs_3 cbs_4); obtain ⟨cbs_0, cbs_1, cbs_2, cbs_3, cbs_4⟩ := cells5 Bbs.out; (try clear hb); ))
            go_ret
            exact ⟨by rw [show firstE [e1, e2, e3, e4, e5] = e5 from by simp [firstE, Z1.out, Z2.out, Z3.out, Z4.out, (by simpa using hs5 : e5 ≠ 0)]]; rfl, (bel_r HB)⟩
          · have hn5 : (e5 != 0) = false := by simpa using hs5
            have Z5 : Aside0 (e5 = 0) := ⟨by simpa using hs5⟩
            go_wp2_with (first | ((with_reducible refine gate_value (t := 12) rfl ?_); refine goes_v (some 13) Try.func126 (H5.out _ HB.out) (h := ?_); rintro e w5 ⟨rfl, hb⟩; refine ⟨_, rfl, ?_⟩; replace HB := bel_b hb HB; replace Bbs := blk_b hb Bbs; (try clear cbs_0 cbs_1 cbs_2 cbs_3 cbs_4); obtain ⟨cbs_0, cbs_1, cbs_2, cbs_3, cbs_4⟩ := cells5 Bbs.out; (try clear hb); ))
            rw [rounds_succ]
            go_wp2
            go_ret
            exact ⟨by unfold firstE; rw [Z1.out, Z2.out, Z3.out, Z4.out, Z5.out]; rfl, (bel_r HB)⟩
end Go.Proofs.Ytkhnhkjihhhbbaa.P

namespace Go.Proofs.Ytkhnhkjihhhbbaa.P
open Go.RowKit Go.Proofs.YtkhnhkjihhhbbaaW.PrintWords Go.Proofs.YtkhnhkjihhhbbaaW.PrintLast Go.Proofs.YtkhnhkjihhhbbaaW.PrintMore
set_option linter.unusedVariables false
set_option linter.unusedSimpArgs false
section
variable {P : Program} {ops : Array Oper} {Q : Exit → Act → World → Prop}
/-- What is known while some operations (b) are done: J of the world; T of each done operation's value; all other places are as they were. -/
structure RI (n : Nat) (d : Nat → Option Tmp) (T : Nat → Value → World → Prop) (J : (Nat → Bool) → World → Prop) (a0 : Act) (b : Nat → Bool) (a : Act) (w : World) : Prop where
  j : J b w
  t : ∀ i s, i < n → b i = true → d i = some s → ∃ v, a.tmps[s]? = some v ∧ T i v w
  off : ∀ s, (∀ i, i < n → d i ≠ some s) → a.tmps[s]? = a0.tmps[s]?
  size : a.tmps.size = a0.tmps.size
  defers : a.defers = a0.defers
/-- One operation: out of what is known, the operations that it waits for being done. -/
def OpStep (P : Program) (ops : Array Oper) (Q : Exit → Act → World → Prop) (n : Nat) (B : List Nat) (d : Nat → Option Tmp) (T : Nat → Value → World → Prop) (J : (Nat → Bool) → World → Prop) (a0 : Act) (i : Nat) : Prop :=
  ∀ b a w, RI n d T J a0 b a w → b i = false → (∀ j, (decide (j < n) && (B.getD i 0).testBit j) = true → b j = true) → (∀ j, (decide (j < n) && (B.getD j 0).testBit i) = true → b j = false) →
    ∃ oi, ops[i]? = some oi ∧ oi.dst = d i ∧ ∀ K : Act → World → Prop, (∀ v w', J (up b i) w' → (∀ k u, T k u w → T k u w') → T i v w' → K (a.put (d i) v) w') →
      if Region.wanted oi (yielded ops a.tmps) = true then Oper.wp P oi a w K Q else K (a.put oi.dst undef) w
theorem sv_ {a : Act} {t : Tmp} {v : Value} (h : a.eval (.tmp t) = v) : a.tmps[t]?.getD undef = v := by simpa [Act.eval] using h
section
variable {b : Nat → Bool} {i N : Nat} {A B : Prop}
theorem jk_ (h : if b N = true then A else B) (hne : N ≠ i) : if up b i N = true then A else B := by rw [up_ne hne]; exact h
theorem j0_ (h : if b N = true then A else B) (hb : b N = false) : B := by rw [hb, if_neg (by decide)] at h; exact h
theorem j1_ (h : if b N = true then A else B) (hb : b N = true) : A := by rw [hb, if_pos rfl] at h; exact h
theorem j0_up (hne : N ≠ i) (hb : b N = false) (h : B) : if up b i N = true then A else B := by rw [up_ne hne, hb, if_neg (by decide)]; exact h
theorem j1_up (h : A) : if up b i i = true then A else B := by rw [up_self, if_pos rfl]; exact h
end
/-- The places, filled. -/
def fillAll (d : Nat → Option Tmp) (vs : Nat → Value) : List Nat → Act → Act
  | [], a => a
  | i :: r, a => fillAll d vs r (a.put (d i) (vs i))
theorem put_get {a : Act} {s t : Tmp} {v : Value} : (a.put (some s) v).tmps[t]? = if s = t then (if s < a.tmps.size then some v else none) else a.tmps[t]? := by
  simp only [Act.put]
  by_cases h : s = t
  · subst h
    by_cases h2 : s < a.tmps.size
    · simp [h2]
    · simp [h2]
  · simp [h, Array.getElem?_setIfInBounds_ne h]
theorem put_size {a : Act} {s : Option Tmp} {v : Value} : (a.put s v).tmps.size = a.tmps.size := by cases s <;> simp [Act.put]
theorem put_defers {a : Act} {s : Option Tmp} {v : Value} : (a.put s v).defers = a.defers := by cases s <;> simp [Act.put]
theorem fillAll_size {d : Nat → Option Tmp} {vs : Nat → Value} : ∀ (l : List Nat) (a : Act), (fillAll d vs l a).tmps.size = a.tmps.size ∧ (fillAll d vs l a).defers = a.defers
  | [], a => ⟨rfl, rfl⟩
  | i :: r, a => ⟨(fillAll_size r _).1.trans put_size, (fillAll_size r _).2.trans put_defers⟩
theorem fillAll_off {d : Nat → Option Tmp} {vs : Nat → Value} {s : Tmp} : ∀ (l : List Nat) (a : Act), (∀ i ∈ l, d i ≠ some s) → (fillAll d vs l a).tmps[s]? = a.tmps[s]?
  | [], a, _ => rfl
  | i :: r, a, h => by
    unfold fillAll
    rw [fillAll_off r _ (fun j hj => h j (List.mem_cons_of_mem _ hj))]
    have hi := h i List.mem_cons_self
    cases hd : d i with
    | none => rfl
    | some t => rw [put_get, if_neg (fun e => hi (by rw [hd, e]))]
theorem fillAll_on {d : Nat → Option Tmp} {vs : Nat → Value} {i : Nat} {s : Tmp} (hd : d i = some s) : ∀ (l : List Nat) (a : Act), l.Nodup → i ∈ l → (∀ j ∈ l, d j = some s → j = i) → s < a.tmps.size → (fillAll d vs l a).tmps[s]? = some (vs i)
  | [], _, _, h, _, _ => by cases h
  | x :: r, a, hn, hi, hj, hs => by
    unfold fillAll
    rw [List.nodup_cons] at hn
    by_cases hx : x = i
    · subst hx
      rw [fillAll_off r _ (fun j hjr e => hn.1 (by rw [← hj j (List.mem_cons_of_mem _ hjr) e]; exact hjr)), hd, put_get, if_pos rfl, if_pos hs]
    · have hi2 : i ∈ r := by rcases List.mem_cons.1 hi with h | h; exact absurd h.symm hx; exact h
      exact fillAll_on hd r _ hn.2 hi2 (fun j hjr => hj j (List.mem_cons_of_mem _ hjr)) (by rw [put_size]; exact hs)
/-- No two operations have one place, and the places are there. -/
def placesOk (n : Nat) (d : Nat → Option Tmp) (size : Nat) : Bool := (List.range n).all fun i => match d i with
  | none => true
  | some s => decide (s < size) && (List.range n).all fun j => (d j != some s) || (j == i)
theorem placesOk_lt {n : Nat} {d : Nat → Option Tmp} {size : Nat} (h : placesOk n d size = true) {i : Nat} (hi : i < n) {s : Tmp} (hd : d i = some s) : s < size ∧ ∀ j, j < n → d j = some s → j = i := by
  have h1 := List.all_eq_true.1 h i (List.mem_range.2 hi)
  rw [hd] at h1
  simp only [Bool.and_eq_true, decide_eq_true_eq] at h1
  refine ⟨h1.1, fun j hj hjs => ?_⟩
  have h2 := List.all_eq_true.1 h1.2 j (List.mem_range.2 hj)
  simpa [hjs] using h2
theorem hfil (n : Nat) : (List.filter (fun j => !(fun _ : Nat => false) j) (List.range n)).length = n := by
  have h2 : List.filter (fun j => !(fun _ : Nat => false) j) (List.range n) = List.range n := List.filter_eq_self.2 (fun _ _ => rfl)
  exact (congrArg List.length h2).trans List.length_range
end
section
variable {n : Nat} {d : Nat → Option Tmp} {T : Nat → Value → World → Prop} {J : (Nat → Bool) → World → Prop} {a0 : Act} {b : Nat → Bool} {a : Act} {w : World}
theorem RI.old (hI : RI n d T J a0 b a w) (s : Tmp) (hs : ∀ i, i < n → d i ≠ some s) {v : Value} (hv : a0.tmps[s]? = some v) : a.eval (.tmp s) = v := eval_of ((hI.off s hs).trans hv)
theorem RI.new (hI : RI n d T J a0 b a w) (s : Tmp) (i : Nat) (hi : i < n) (hb : b i = true) (hd : d i = some s) {x : Value} (hT : ∀ v, T i v w → v = x) : a.eval (.tmp s) = x := by
  obtain ⟨v, hv, h⟩ := hI.t i s hi hb hd
  rw [← hT v h]
  exact eval_of hv
theorem op_keep {P : Program} {ops : Array Oper} {Q : Exit → Act → World → Prop} {i : Nat} {oi : Oper} {v : Value} (hI : RI n d T J a0 b a w) (hJ : J (up b i) w) (ho : ops[i]? = some oi := by exact rfl) (hd : oi.dst = d i := by exact rfl) (hg : oi.guard = none := by exact rfl) (hT : T i v w := by exact rfl) (hrun : (execOp a.eval oi).run P w = .ok (.value v) w) :
    ∃ oi, ops[i]? = some oi ∧ oi.dst = d i ∧ ∀ K : Act → World → Prop, (∀ v w', J (up b i) w' → (∀ k u, T k u w → T k u w') → T i v w' → K (a.put (d i) v) w') →
      if Region.wanted oi (yielded ops a.tmps) = true then Oper.wp P oi a w K Q else K (a.put oi.dst undef) w :=
  ⟨oi, ho, hd, fun K hK => value_ (by simp [Region.wanted, hg]) rfl hrun (by rw [hd]; exact hK v w hJ (fun _ _ h => h) hT)⟩
end
section
variable {P : Program} {ops : Array Oper} {Q : Exit → Act → World → Prop}
theorem region_ri {id n : Nat} {B : List Nat} (d : Nat → Option Tmp) (T : Nat → Value → World → Prop) (J : (Nat → Bool) → World → Prop) {a : Act} {w : World}
    (hm : P.follows .mixedOrders = true) (hn : ops.size = n) (hw : waitsOk (rtab .any ops).2 B = true) (hk : baseOk (rtab .any ops).2 (List.range n) = true) (hp : placesOk n d a.tmps.size = true)
    (h0 : J (fun _ => false) w.drew)
    (hs : ∀ i, i < n → OpStep P ops Q n B d T J a i)
    (hend : ∀ (vs : Nat → Value) w' b, (∀ j, j < n → b j = true) → J b w' → (∀ i, i < n → d i ≠ none → T i (vs i) w') → Q .normal (fillAll d vs (List.range n) a) w') : (Code.region id ops true).wp P Q a w := by
  have hlen : (rtab .any ops).2.length = n := by rw [rtab_length, hn]
  have hl : (lof (rtab .any ops).2.length (List.range n) (fun _ => false)) = List.replicate n false := by
    rw [hlen]
    apply List.ext_getElem?
    intro j
    by_cases hj : j < n
    · simp [lof, hj]
    · rw [List.getElem?_eq_none (by simp [lof]; omega), List.getElem?_eq_none (by simp; omega)]
  refine wp_region_last (S := fun _ => True) (ds := []) hm ?_
  rw [hn]
  have h1 := inv_all (P := P) (Q := Q) (md := .any) (ops := ops) (T := rtab .any ops) (B := B) (O := List.range n) rfl hw hk (RI n d T J a) (fun i hi => ?_) (fun b a' w' hall hI => ?_) n (fun _ => false) a w.drew (hfil n) (fun dd r _ _ hb => by cases hb)
    ⟨h0, fun i s _ hb => (by cases hb), fun s _ => rfl, rfl, rfl⟩
  · rw [hl] at h1
    have : (List.replicate n false).toArray = Array.replicate n false := by simp
    rw [this] at h1
    exact h1
  · intro b a' w' hI hb hon hoff
    have hin : i < n := List.mem_range.1 hi
    have hcon : ∀ j, (List.range n).contains j = decide (j < n) := fun j => by
      by_cases hj : j < n
      · simp [hj]
      · simp [hj]
    obtain ⟨oi, ho, hd, hK⟩ := hs i hin b a' w' hI hb (fun j hj => hon j (by rw [hcon]; exact hj)) (fun j hj => hoff j (by rw [hcon]; exact hj))
    refine ⟨oi, ho, fun K hKK => hK K (fun v w2 hJ hT hTi => hKK _ _ ⟨hJ, fun k s hkn hbk hdk => ?_, fun s hs2 => ?_, put_size.trans hI.size, put_defers.trans hI.defers⟩)⟩
    · by_cases hki : k = i
      · subst hki
        refine ⟨v, ?_, hTi⟩
        rw [hdk, put_get, if_pos rfl, if_pos (by rw [hI.size]; exact (placesOk_lt hp hin hdk).1)]
      · rw [up_ne hki] at hbk
        obtain ⟨u, hu, hTu⟩ := hI.t k s hkn hbk hdk
        refine ⟨u, ?_, hT k u hTu⟩
        cases hdi : d i with
        | none => exact hu
        | some t => rw [put_get, if_neg (fun e => hki ((placesOk_lt hp hin (hdi.trans (by rw [e]))).2 k hkn hdk)), hu]
    · cases hdi : d i with
      | none => exact hI.off s hs2
      | some t => rw [put_get, if_neg (fun e => hs2 i hin (by rw [hdi, e]))]; exact hI.off s hs2
  · have hall' : ∀ j, j < n → b j = true := fun j hj => hall j (by simp [hj])
    have hex : ∃ vs : Nat → Value, ∀ i, i < n → ∀ s, d i = some s → a'.tmps[s]? = some (vs i) ∧ T i (vs i) w' := by
      have hone : ∀ i, ∃ v, i < n → ∀ s, d i = some s → a'.tmps[s]? = some v ∧ T i v w' := fun i => by
        by_cases hin : i < n
        · cases hdi : d i with
          | none => exact ⟨undef, fun _ s h => by cases h⟩
          | some t =>
            obtain ⟨v, hv, hT⟩ := hI.t i t hin (hall' i hin) hdi
            exact ⟨v, fun _ s h => by cases h; exact ⟨hv, hT⟩⟩
        · exact ⟨undef, fun h => absurd h hin⟩
      exact ⟨fun i => Classical.choose (hone i), fun i => Classical.choose_spec (hone i)⟩
    obtain ⟨vs, hvs⟩ := hex
    have ha : a' = fillAll d vs (List.range n) a := by
      have hsz := fillAll_size (d := d) (vs := vs) (List.range n) a
      have ht : a'.tmps = (fillAll d vs (List.range n) a).tmps := by
        apply Array.ext_getElem?
        intro s
        by_cases hex : ∃ i, i < n ∧ d i = some s
        · obtain ⟨i, hin, hdi⟩ := hex
          have hpl := placesOk_lt hp hin hdi
          rw [(hvs i hin s hdi).1, fillAll_on hdi (List.range n) a List.nodup_range (List.mem_range.2 hin) (fun j hj hjs => hpl.2 j (List.mem_range.1 hj) hjs) hpl.1]
        · have hno : ∀ i, i < n → d i ≠ some s := fun i hin hdi => hex ⟨i, hin, hdi⟩
          rw [hI.off s hno, fillAll_off (List.range n) a (fun i hi => hno i (List.mem_range.1 hi))]
      cases a'
      cases hf : fillAll d vs (List.range n) a
      rw [hf] at ht hsz
      simp only at ht
      have hdd := hI.defers
      simp only at hdd hsz
      rw [ht, hdd, ← hsz.2]
    rw [ha]
    exact hend vs w' b hall' hI.j (fun i hin hdn => by
      cases hdi : d i with
      | none => exact absurd hdi hdn
      | some s => exact (hvs i hin s hdi).2)
end
end Go.Proofs.Ytkhnhkjihhhbbaa.P

namespace Go.Proofs.Ytkhnhkjihhhbbaa.P
open Go.RowKit Go.Proofs.YtkhnhkjihhhbbaaW.PrintWords Go.Proofs.YtkhnhkjihhhbbaaW.PrintLast Go.Proofs.YtkhnhkjihhhbbaaW.PrintMore
set_option linter.unusedVariables false
set_option linter.unusedSimpArgs false
variable {β : Type}
def mfind (k : Int) : List (Int × β) → Nat → Option (Nat × β)
  | [], _ => none
  | x :: r, i => if x.1 == k then some (i, x.2) else mfind k r (i + 1)
def mget (L : List (Int × β)) (k : Int) : Option β := (mfind k L 0).map (·.2)
def mput (L : List (Int × β)) (k : Int) (v : β) : List (Int × β) := match mfind k L 0 with
  | some (i, _) => L.set i (k, v)
  | none => L ++ [(k, v)]
def mentry (kk : IntKind) (enc : β → Value) (p : (Int × β) × Nat) : MapEntry := { key := .int kk p.1.1, val := enc p.1.2, born := p.2 }
def entriesOf (kk : IntKind) (enc : β → Value) (L : List (Int × β)) : Array MapEntry := (L.zipIdx.map (mentry kk enc)).toArray
def IsMap (kk : IntKind) (enc : β → Value) (w : World) (b : Nat) (L : List (Int × β)) : Prop := w.heap[b]? = some (.map (entriesOf kk enc L) L.length)
theorem mfind_at (k : Int) : ∀ (L : List (Int × β)) (i j : Nat) (v : β), mfind k L i = some (j, v) → i ≤ j ∧ j - i < L.length ∧ L[j - i]? = some (k, v) := by
  intro L
  induction L with
  | nil => intro i j v h; simp [mfind] at h
  | cons x r ih =>
    intro i j v h
    unfold mfind at h
    split at h
    · rename_i hx
      simp only [Option.some.injEq, Prod.mk.injEq] at h
      obtain ⟨rfl, rfl⟩ := h
      have : x.1 = k := by simpa using hx
      subst this
      simp
    · obtain ⟨h1, h2, h3⟩ := ih (i + 1) j v h
      refine ⟨by omega, by simp; omega, ?_⟩
      rw [show j - i = (j - (i + 1)) + 1 by omega, List.getElem?_cons_succ]
      exact h3
theorem findNow_entries (kk : IntKind) (enc : β → Value) (k : Int) : ∀ (L : List (Int × β)) (n i : Nat), Instr.findNow (.int kk) (.int kk k) ((L.zipIdx n).map (mentry kk enc)) i = some ((mfind k L i).map fun p => (p.1, enc p.2)) := by
  intro L
  induction L with
  | nil => intro n i; rfl
  | cons x r ih =>
    intro n i
    simp only [List.zipIdx_cons, List.map_cons, Instr.findNow, mentry, Instr.sameNow, if_true, mfind]
    have hk : (k == x.1) = (x.1 == k) := by rw [Bool.eq_iff_iff]; simp; exact eq_comm
    rw [hk]
    cases hx : x.1 == k
    · simp only [Bool.false_eq_true, if_false]
      exact ih (n + 1) (i + 1)
    · simp
section
variable {P : Program} {w : World} {b : Nat} {kk : IntKind} {enc : β → Value} {L : List (Int × β)} {T K E : TypeId}
theorem mrun_find (hK : P.underlying K = some (.int kk)) (k : Int) : (Instr.findKey K (.int kk k) (entriesOf kk enc L).toList).run P w = .ok ((mfind k L 0).map fun p => (p.1, enc p.2)) w := by
  unfold entriesOf
  exact Go.MapKept.run_findKey hK (findNow_entries kk enc k L 0 0)
theorem mrun_check (hK : P.underlying K = some (.int kk)) (e : Bool) (k : Int) : (Instr.checkKey e 10000 K (.int kk k)).run P w = .ok () w := Go.MapKept.run_checkKey hK (by simp [Go.MapKept.IsKey]) e 9999
theorem run_lookup (h : IsMap kk enc w b L) (hT : P.underlying T = some (.map K E)) (hK : P.underlying K = some (.int kk)) {z : Value} (hz : (zeroValue E).run P w = .ok z w) (k : Int) :
    (Instr.lookup T (.map (some b)) (.int kk k) false).run P w = .ok (((mget L k).map enc).getD z) w := by
  have hg := Go.MapKept.run_getObj_map (P := P) (show w.heap[b]? = some (.map (entriesOf kk enc L) L.length) from h)
  unfold Instr.lookup mget
  simp only [Sem.run_bind, run_underlying hT, hg, mrun_find hK, mrun_check hK, Result.andThen, Sem.run_pure]
  cases hf : mfind k L 0 with
  | none => simp [hz, Result.andThen]
  | some p => simp
theorem run_lookup_ok (h : IsMap kk enc w b L) (hT : P.underlying T = some (.map K E)) (hK : P.underlying K = some (.int kk)) {z : Value} (hz : (zeroValue E).run P w = .ok z w) (k : Int) :
    (Instr.lookup T (.map (some b)) (.int kk k) true).run P w = .ok (.tuple #[((mget L k).map enc).getD z, .bool (mget L k).isSome]) w := by
  have hg := Go.MapKept.run_getObj_map (P := P) (show w.heap[b]? = some (.map (entriesOf kk enc L) L.length) from h)
  unfold Instr.lookup mget
  simp only [Sem.run_bind, run_underlying hT, hg, mrun_find hK, mrun_check hK, Result.andThen, Sem.run_pure]
  cases hf : mfind k L 0 with
  | none => simp [hz, Result.andThen]
  | some p => simp
theorem entries_push (x : Int × β) : (entriesOf kk enc L).push { key := .int kk x.1, val := enc x.2, born := L.length } = entriesOf kk enc (L ++ [x]) := by
  simp [entriesOf, List.zipIdx_append, mentry]
theorem entries_get (i : Nat) (x : Int × β) (h : L[i]? = some x) : (entriesOf kk enc L)[i]? = some (mentry kk enc (x, i)) := by
  simp [entriesOf, h]
theorem entries_set (i : Nat) (x y : Int × β) (h : L[i]? = some x) : ((entriesOf kk enc L).modify i fun e => { e with key := .int kk y.1, val := enc y.2 }) = entriesOf kk enc (L.set i y) := by
  apply Array.ext_getElem?
  intro j
  rw [Array.getElem?_modify]
  simp only [entriesOf, List.getElem?_toArray, List.getElem?_map, List.getElem?_zipIdx, List.getElem?_set]
  by_cases hj : i = j
  · subst hj
    have hl := (List.getElem?_eq_some_iff.1 h).1
    simp [h, hl, mentry]
  · simp [hj]
theorem run_mapUpdate (h : IsMap kk enc w b L) (hT : P.underlying T = some (.map K E)) (hK : P.underlying K = some (.int kk)) (k : Int) (v : β) :
    ∃ w', (Instr.mapUpdate T (.map (some b)) (.int kk k) (enc v)).run P w = .ok () w' ∧ IsMap kk enc w' b (mput L k v) ∧ Only b w w' := by
  have hb : w.heap[b]? = some (.map (entriesOf kk enc L) L.length) := h
  have hlt := (Array.getElem?_eq_some_iff.1 hb).1
  have hg := Go.MapKept.run_getObj_map (P := P) hb
  have hs := fun o => Go.MapKept.run_setObj_map (P := P) o hb
  have honly : ∀ o : Obj, Only b w { w with heap := w.heap.setIfInBounds b o } := fun o => ⟨rfl, rfl, rfl, by simp, fun k hk => by simp [Array.getElem?_setIfInBounds_ne (Ne.symm hk)]⟩
  have hat : ∀ o : Obj, ({ w with heap := w.heap.setIfInBounds b o } : World).heap[b]? = some o := fun o => by simp [hlt]
  unfold Instr.mapUpdate mput
  cases hf : mfind k L 0 with
  | none =>
    refine ⟨_, ?_, ?_, honly (.map ((entriesOf kk enc L).push { key := .int kk k, val := enc v, born := L.length }) (L.length + 1))⟩
    · simp only [Sem.run_bind, run_underlying hT, hg, mrun_find hK, mrun_check hK, Result.andThen, hf, Option.map_none, hs]
    · unfold IsMap
      rw [hat, entries_push (k, v)]
      simp
  | some p =>
    obtain ⟨_, _, hp⟩ := mfind_at k L 0 p.1 p.2 hf
    simp only [Nat.sub_zero] at hp
    refine ⟨_, ?_, ?_, honly (.map ((entriesOf kk enc L).modify p.1 fun e => { e with key := .int kk k, val := enc v }) L.length)⟩
    · have hks : (Instr.keyThatStays (.int kk k) (.int kk k)).run P w = .ok (.int kk k) w := by
        unfold Instr.keyThatStays
        simp [Instr.sameBits]
      simp only [Sem.run_bind, run_underlying hT, hg, mrun_find hK, mrun_check hK, Result.andThen, hf, Option.map_some, entries_get p.1 (k, p.2) hp, Option.getD_some, mentry, hks, hs]
    · unfold IsMap
      rw [hat, entries_set p.1 (k, p.2) (k, v) hp]
      simp
theorem IsMap.only {w' : World} {g : Nat} (h : IsMap kk enc w b L) (ho : Only g w w') (hne : b ≠ g) : IsMap kk enc w' b L := (ho.block b hne).trans h
theorem IsMap.below {w' : World} (h : IsMap kk enc w b L) (hb : Below w.heap.size w w') : IsMap kk enc w' b L := (hb.block b (Array.getElem?_eq_some_iff.1 h).1).trans h
theorem IsMap.lt (h : IsMap kk enc w b L) : b < w.heap.size := (Array.getElem?_eq_some_iff.1 h).1
theorem IsMap.made (w : World) (kk : IntKind) (enc : β → Value) : IsMap kk enc (w.alloc (.map #[] 0)) w.heap.size [] := heap_alloc_new w _
end
section
variable {b g : Nat} {kk : IntKind} {enc : β → Value} {L : List (Int × β)} {W W' w2 : World}
theorem map_b (hb : Below W'.heap.size W' w2) (h : Aside0 (IsMap kk enc W b L)) (h4 : W'.heap = W.heap := by exact rfl) : Aside0 (IsMap kk enc w2 b L) := blk_b hb h h4
theorem map_o (ho : Only g W' w2) (h : Aside0 (IsMap kk enc W b L)) (hne : b ≠ g) (h4 : W'.heap = W.heap := by exact rfl) : Aside0 (IsMap kk enc w2 b L) := blk_o ho h hne h4
end
section
variable {P : Program} {ops : Array Oper} {rest : List Oper} {o : Oper} {a : Act} {Q : Exit → Act → World → Prop} {b : Nat} {kk : IntKind} {enc : β → Value} {L : List (Int × β)} {K E : TypeId}
theorem make_event {W : World} (hgd : o.guard = none) (T : TypeId) (hop : o.op = .makeMap T none) (kk : IntKind) (enc : β → Value)
    (h : ∀ b, b = W.heap.size → ∀ w1, IsMap kk enc w1 b ([] : List (Int × β)) → Below W.heap.size W w1 → wpList P ops Q rest (a.put o.dst (.map (some b))) w1) : wpList P ops Q (o :: rest) a W := by
  refine Kd.event_run hgd (v := .map (some W.heap.size)) (w1 := W.alloc (.map #[] 0)) ?_ (h _ rfl _ (IsMap.made W kk enc) (below_alloc (Below.refl _ _) _))
  unfold execOp
  simp [hop, run_makeMap]
theorem lookup_event {W : World} (hgd : o.guard = none) (T : TypeId) (m x : Operand) (hop : o.op = .lookup T m x false) (hm : a.eval m = .map (some b)) (k : Int) (hx : a.eval x = .int kk k)
    (hI : IsMap kk enc W b L) (hT : P.underlying T = some (.map K E)) (hK : P.underlying K = some (.int kk)) {z : Value} (hz : (zeroValue E).run P W = .ok z W)
    (h : wpList P ops Q rest (a.put o.dst (((mget L k).map enc).getD z)) W) : wpList P ops Q (o :: rest) a W := by
  refine Kd.event_run hgd (v := ((mget L k).map enc).getD z) (w1 := W) ?_ h
  unfold execOp
  simp [hop, hm, hx, run_lookup hI hT hK hz k]
theorem lookup_ok_event {W : World} (hgd : o.guard = none) (T : TypeId) (m x : Operand) (hop : o.op = .lookup T m x true) (hm : a.eval m = .map (some b)) (k : Int) (hx : a.eval x = .int kk k)
    (hI : IsMap kk enc W b L) (hT : P.underlying T = some (.map K E)) (hK : P.underlying K = some (.int kk)) {z : Value} (hz : (zeroValue E).run P W = .ok z W)
    (h : wpList P ops Q rest (a.put o.dst (.tuple #[((mget L k).map enc).getD z, .bool (mget L k).isSome])) W) : wpList P ops Q (o :: rest) a W := by
  refine Kd.event_run hgd (v := .tuple #[((mget L k).map enc).getD z, .bool (mget L k).isSome]) (w1 := W) ?_ h
  unfold execOp
  simp [hop, hm, hx, run_lookup_ok hI hT hK hz k]
end
end Go.Proofs.Ytkhnhkjihhhbbaa.P

namespace Go.Proofs.Ytkhnhkjihhhbbaa.P
open Go.RowKit Go.Proofs.YtkhnhkjihhhbbaaW.PrintWords Go.Proofs.YtkhnhkjihhhbbaaW.PrintLast Go.Proofs.YtkhnhkjihhhbbaaW.PrintMore
set_option linter.unusedVariables false
set_option linter.unusedSimpArgs false
def rangeV (r : S32) : Value := .agg #[.int .i64 r.f0, .int .i64 r.f1]
def addR (a b : S32) : S32 := ⟨wrap64 (a.f0 + b.f0), wrap64 (a.f1 + b.f1)⟩
theorem plus_any (a b : S32) (w : World) : Calls Try.prog 128 #[rangeV a, .agg #[.int .i64 b.f0, .int .i64 b.f1]] w fun e w' => e = .returned (rangeV (addR a b)) ∧ Below w.heap.size w w' :=
  (pump_plus.calls a.f0 a.f1 b.f0 b.f1 _ _ w rfl).mono fun e w' h => h
def hasB (l : List Int) (x : Int) : Bool := l.contains x
def addAt (L : List (Int × S32)) (k : Int) (r : S32) : List (Int × S32) := mput L k (addR ((mget L k).getD ⟨0, 0⟩) r)
def pipesL (sh : List Int) : List S138 → Int → List (Int × S32) → List (Int × S32)
  | [], _, L => L
  | p :: ps, i, L => pipesL sh ps (i + 1) (if hasB sh i = true then L else addAt (addAt L p.f0 p.f2) p.f1 p.f3)
def pumpsL : List S112 → List (Int × S32) → List (Int × S32)
  | [], L => L
  | x :: xs, L => pumpsL xs (addAt L x.f0 x.f1)
/-- What leaves each vessel, in the order in which the vessels come up. -/
def leavingL (l1 : List S138) (l2 : List S112) (sh : List Int) : List (Int × S32) := pumpsL l2 (pipesL sh l1 0 [])
theorem index_loop (l : List Int) (x : Int) (hl : l.length ≤ 140737488355328) : ∀ (n : Nat) (i : Int), 0 ≤ i → i ≤ l.length → l.length - i.toNat = n →
    ∃ r, slices_Index_int_int.l0 (n + 1) l x (l.length : Int) i = some r ∧ ((decide (r ≥ 0)) = (l.drop i.toNat).contains x) := by
  intro n
  induction n with
  | zero =>
    intro i h0 h1 h2
    refine ⟨-1, ?_, ?_⟩
    · simp only [slices_Index_int_int.l0]; rw [if_neg (by omega)]
    · rw [List.drop_eq_nil_of_le (by omega)]; rfl
  | succ n ih =>
    intro i h0 h1 h2
    have hlt : i.toNat < l.length := by omega
    have hd : l.drop i.toNat = rd l i :: l.drop (i + 1).toNat := by
      rw [show (i + 1).toNat = i.toNat + 1 by omega, List.drop_eq_getElem_cons hlt]; unfold rd; simp [List.getD_eq_getElem?_getD, List.getElem?_eq_getElem hlt]
    by_cases hx : x = rd l i
    · refine ⟨i, ?_, ?_⟩
      · simp only [slices_Index_int_int.l0]; rw [if_pos (by omega), if_pos h0, if_pos (by omega), if_pos hx]
      · rw [hd, hx]; simp [h0]
    · obtain ⟨r, hr, hc⟩ := ih (i + 1) (by omega) (by omega) (by omega)
      refine ⟨r, ?_, ?_⟩
      · simp only [slices_Index_int_int.l0]; rw [if_pos (by omega), if_pos h0, if_pos (by omega), if_neg hx]
        rw [show wrap64 (i + 1) = i + 1 by unfold wrap64; omega]; exact hr
      · rw [hc, hd, List.contains_cons]
        have : (x == rd l i) = false := by simpa using hx
        rw [this, Bool.false_or]
theorem contains_any (l : List Int) (x : Int) (A : Option Addr) (c : Nat) (w : World) (hr : Kd.C (Kd.int .i64) w A l.length l) (hc : l.length ≤ c) (hl : l.length ≤ 140737488355328) :
    Calls Try.prog 127 #[.slice A l.length c, .int .i64 x] w fun e w' => e = .returned (.bool (hasB l x)) ∧ Drawn0 w w' := by
  obtain ⟨r, h1, h2⟩ := index_loop l x hl l.length 0 (by omega) (by omega) (by simp)
  unfold hasB
  refine slices_Contains_int_int.calls (l.length + 1) A c l x _ w hr hc ?_
  unfold slices_Contains_int_int.f slices_Index_int_int.f
  rw [h1]
  simp only [Option.bind_some, h2]
  simp
def LeavesAs (l1 : List S138) (l2 : List S112) (sh : List Int) (w : World) (e : Ending) (w' : World) : Prop :=
  ∃ m, e = .returned (.map (some m)) ∧ w.heap.size ≤ m ∧ Aside0 (IsMap .i64 rangeV w' m (leavingL l1 l2 sh)) ∧ Below w.heap.size w w'
set_option maxHeartbeats 4000000 in
set_option maxRecDepth 100000 in
theorem leaving_any (l1 : List S138) (l2 : List S112) (sh : List Int) (A0 A1 A2 A3 A4 As : Option Addr) (n0 c0 c1 c2 n3 c3 n4 c4 cs : Nat) (w : World)
    (hr1 : Kd.C k138 w A1 l1.length l1) (hr2 : Kd.C k112 w A2 l2.length l2) (hrs : Kd.C (Kd.int .i64) w As sh.length sh) (hc1 : l1.length ≤ c1) (hc2 : l2.length ≤ c2) (hcs : sh.length ≤ cs)
    (hl1 : l1.length ≤ 100) (hl2 : l2.length ≤ 100) (hls : sh.length ≤ 140737488355328) :
    Calls Try.prog 99 #[.agg #[.slice A0 n0 c0, .slice A1 l1.length c1, .slice A2 l2.length c2, .slice A3 n3 c3, .slice A4 n4 c4], .slice As sh.length cs] w (LeavesAs l1 l2 sh w) := by
  have HR1 := Aside0.mk hr1
  have HR2 := Aside0.mk hr2
  have HRS := Aside0.mk hrs
  have HCS := Aside0.mk hcs
  have HLS := Aside0.mk hls
  clear hr1 hr2 hrs hcs hls
  have HB := Aside0.mk (Below.refl w.heap.size w)
  go_enter Try.func99, Try.ntmps99
  go_wp2_with (first | ((with_reducible refine gate_dst (N := 2) rfl ?_); go_must (refine box_ev (N := 2) (cs := #[.slice A0 n0 c0, .slice A1 l1.length c1, .slice A2 l2.length c2, .slice A3 n3 c3, .slice A4 n4 c4]) (t := 29) (h := ?_); intro g hgg w1 hbox hb; have GEg := ge_new HB hgg; replace HB := bel_b hb HB; have Bg := Aside0.mk hbox; clear hbox; obtain ⟨cg_0, cg_1, cg_2, cg_3, cg_4⟩ := cells5 Bg.out; (try clear hb); clear hgg)) | ((with_reducible refine gate_dst (N := 10) rfl ?_); go_must (refine make_event rfl 159 rfl .i64 rangeV ?_; intro m hgm w2 hm_ hb; have Gm : Aside0 (w.heap.size ≤ m) := ⟨by rw [hgm]; exact (show Below w.heap.size w _ from (bel_r HB)).size⟩; have Ngm : Aside0 (g ≠ m) := ⟨by rw [hgm]; exact Nat.ne_of_lt (blk_lt (show _ = some (Obj.cells #[.slice A0 n0 c0, .slice A1 l1.length c1, .slice A2 l2.length c2, .slice A3 n3 c3, .slice A4 n4 c4] 29 (0, 0)) from Bg.out))⟩; replace HB := bel_b hb HB; replace Bg := blk_b hb Bg; (try clear cg_0 cg_1 cg_2 cg_3 cg_4); obtain ⟨cg_0, cg_1, cg_2, cg_3, cg_4⟩ := cells5 Bg.out; (try clear hb); have Bm := Aside0.mk hm_; clear hm_ hgm)))
  go_loopg [14] (l1.length) (fun k v14 w' => ∃ (i : Int) (L : List (Int × S32)), 0 ≤ i ∧ k = l1.length - i.toNat ∧ i ≤ l1.length ∧ v14 = .int .i64 i ∧ Aside0 (pipesL sh l1 0 [] = pipesL sh (l1.drop i.toNat) i L) ∧ Aside0 (IsMap .i64 rangeV w' m L) ∧ Aside0 (w'.heap[g]? = some (.cells #[.slice A0 n0 c0, .slice A1 l1.length c1, .slice A2 l2.length c2, .slice A3 n3 c3, .slice A4 n4 c4] 29 (0, 0))) ∧ Aside0 (Below w.heap.size w w'))
  case atStart => exact ⟨0, [], by omega, by simp, by omega, rfl, ⟨by simp⟩, Bm, Bg, HB⟩
  case round =>
    clear HB Bm Bg
    obtain ⟨i, L, hi0, hn, hi, rfl, HE, Bm, Bg, HB⟩ := hrel
    have Hn := Aside0.mk hn
    clear hn
    obtain ⟨cg_0, cg_1, cg_2, cg_3, cg_4⟩ := cells5 Bg.out; 
    by_cases hi' : i < l1.length
    · have HD : Aside0 (l1.drop i.toNat = (rd_T138 l1 i) :: l1.drop (i + 1).toNat) := ⟨by
        rw [show (i + 1).toNat = i.toNat + 1 by omega, List.drop_eq_getElem_cons (by omega)]; unfold rd_T138; simp [List.getD_eq_getElem?_getD, List.getElem?_eq_getElem (show i.toNat < l1.length by omega)]⟩
      obtain ⟨ad, had, k0, k1, k2, k3, k4, k5⟩ := at_T138 HR1.out i hi0 hi'
      replace k0 := pw_cell_below HB.out k0
      replace k1 := pw_cell_below HB.out k1
      replace k2 := pw_cell_below HB.out k2
      replace k3 := pw_cell_below HB.out k3
      replace k4 := pw_cell_below HB.out k4
      replace k5 := pw_cell_below HB.out k5
      cases had
      cases hs : hasB sh i
      · have HS := Aside0.mk hs
        go_wp2_with (first | ((with_reducible refine gate_dst (N := 7) rfl ?_); go_must (refine box_ev (N := 7) (cs := #[.int .i64 0, .int .i64 0, .int .i64 0, .int .i64 0, .int .i64 0, .int .i64 0]) (t := 138) (h := ?_); intro p7 hgp7 w3 hbox hb; have GEp7 := ge_new HB hgp7; have N_g_p7 := ne_new Bg hgp7; have N_m_p7 := ne_new Bm hgp7; replace HB := bel_b hb HB; replace Bg := blk_b hb Bg; (try clear cg_0 cg_1 cg_2 cg_3 cg_4); obtain ⟨cg_0, cg_1, cg_2, cg_3, cg_4⟩ := cells5 Bg.out; replace Bm := map_b hb Bm; have Bp7 := Aside0.mk hbox; clear hbox; obtain ⟨cp7_0, cp7_1, cp7_2, cp7_3, cp7_4, cp7_5⟩ := cells6 Bp7.out; (try clear hb); clear hgp7)) | ((with_reducible refine gate_store (t := 138) (p := 7) rfl ?_); go_must (refine row_ev p7 #[.int .i64 (rd_T138 l1 i).f0, .int .i64 (rd_T138 l1 i).f1, .int .i64 (rd_T138 l1 i).f2.f0, .int .i64 (rd_T138 l1 i).f2.f1, .int .i64 (rd_T138 l1 i).f3.f0, .int .i64 (rd_T138 l1 i).f3.f1] Bp7.out (h := ?_); intro w4 hbox ho_; replace HB := bel_o ho_ HB GEp7; replace Bg := blk_o ho_ Bg (by first | exact N_g_p7.out | exact N_p7_g.out.symm); (try clear cg_0 cg_1 cg_2 cg_3 cg_4); obtain ⟨cg_0, cg_1, cg_2, cg_3, cg_4⟩ := cells5 Bg.out; replace Bm := map_o ho_ Bm (by first | exact N_m_p7.out | exact N_p7_m.out.symm); replace Bp7 := Aside0.mk hbox; clear hbox ho_; (try clear cp7_0 cp7_1 cp7_2 cp7_3 cp7_4 cp7_5); obtain ⟨cp7_0, cp7_1, cp7_2, cp7_3, cp7_4, cp7_5⟩ := cells6 Bp7.out; )) | ((with_reducible refine gate_callee (f := 127) rfl ?_); refine goes_c (some 21) Try.func127 (contains_any sh i As cs _ (Kd.C_below HRS.out HB.out) HCS.out HLS.out) (h := ?_); rintro e w5 ⟨rfl, hd_⟩; refine ⟨_, rfl, ?_⟩; have hb := Drawn0.below hd_; clear hd_; replace HB := bel_b hb HB; replace Bg := blk_b hb Bg; (try clear cg_0 cg_1 cg_2 cg_3 cg_4); obtain ⟨cg_0, cg_1, cg_2, cg_3, cg_4⟩ := cells5 Bg.out; replace Bm := map_b hb Bm; replace Bp7 := blk_b hb Bp7; (try clear cp7_0 cp7_1 cp7_2 cp7_3 cp7_4 cp7_5); obtain ⟨cp7_0, cp7_1, cp7_2, cp7_3, cp7_4, cp7_5⟩ := cells6 Bp7.out; (try clear hb); ))
        refine region_ri (n := 11) (B := [0, 0, 2, 0, 0, 16, 56, 0, 128, 504, 1023]) (fun o_ => match o_ with | 0 => some 23 | 1 => some 24 | 2 => some 25 | 3 => some 26 | 4 => some 27 | 5 => some 28 | 6 => some 29 | 7 => some 30 | 8 => some 31 | 9 => some 32 | 10 => none | _ => none) (fun o_ q_ w' => match o_ with | 0 => q_ = .map (some m) | 1 => q_ = .pointer (some ⟨p7, 0, none⟩) | 2 => q_ = .int .i64 (rd_T138 l1 i).f0 | 3 => q_ = .map (some m) | 4 => q_ = .pointer (some ⟨p7, 0, none⟩) | 5 => q_ = .int .i64 (rd_T138 l1 i).f0 | 6 => q_ = rangeV ((mget (L) (rd_T138 l1 i).f0).getD ⟨0, 0⟩) | 7 => q_ = .pointer (some ⟨p7, 2, none⟩) | 8 => q_ = .agg #[.int .i64 (rd_T138 l1 i).f2.f0, .int .i64 (rd_T138 l1 i).f2.f1] | 9 => q_ = rangeV (addR ((mget (L) (rd_T138 l1 i).f0).getD ⟨0, 0⟩) (rd_T138 l1 i).f2) | _ => True) (fun b w' => Aside0 (Below w.heap.size w w') ∧ Aside0 (w'.heap[g]? = some (.cells #[.slice A0 n0 c0, .slice (some ad) l1.length c1, .slice A2 l2.length c2, .slice A3 n3 c3, .slice A4 n4 c4] 29 (0, 0))) ∧ Aside0 (w'.heap[p7]? = some (.cells #[.int .i64 (rd_T138 l1 i).f0, .int .i64 (rd_T138 l1 i).f1, .int .i64 (rd_T138 l1 i).f2.f0, .int .i64 (rd_T138 l1 i).f2.f1, .int .i64 (rd_T138 l1 i).f3.f0, .int .i64 (rd_T138 l1 i).f3.f1] 138 (0, 0))) ∧ IsMap .i64 rangeV w' m (if b 10 = true then addAt L (rd_T138 l1 i).f0 (rd_T138 l1 i).f2 else L)) rfl rfl (by kernel_rfl) (by kernel_rfl) (by kernel_rfl) ⟨⟨below_drew ((bel_r HB))⟩, ⟨Bg.out⟩, ⟨Bp7.out⟩, Bm.out⟩ ?_ ?_
        · intro o_ hi
          match o_, hi with
          | 0, _ =>
            intro b a wq hI hbi_ hb_ hoff_
            have e5 : a.eval (.tmp 5) = .map (some m) := hI.old 5 (by decide) rfl
            have s5 := sv_ e5
            have hJ := hI.j
            obtain ⟨HBq, Bgq, Bbq, HMq⟩ := hJ
            obtain ⟨cp7_0, cp7_1, cp7_2, cp7_3, cp7_4, cp7_5⟩ := cells6 Bbq.out; 
            exact op_keep hI (i := 0) ⟨HBq, Bgq, Bbq, by rw [up_ne (show (10 : Nat) ≠ 0 by decide)]; exact HMq⟩ (hrun := gs_)
          | 1, _ =>
            intro b a wq hI hbi_ hb_ hoff_
            have e7 : a.eval (.tmp 7) = .pointer (some ⟨p7, 0, none⟩) := hI.old 7 (by decide) rfl
            have s7 := sv_ e7
            have hJ := hI.j
            obtain ⟨HBq, Bgq, Bbq, HMq⟩ := hJ
            obtain ⟨cp7_0, cp7_1, cp7_2, cp7_3, cp7_4, cp7_5⟩ := cells6 Bbq.out; 
            exact op_keep hI (i := 1) ⟨HBq, Bgq, Bbq, by rw [up_ne (show (10 : Nat) ≠ 1 by decide)]; exact HMq⟩ (hrun := gs_)
          | 2, _ =>
            intro b a wq hI hbi_ hb_ hoff_
            have e24 := hI.new 24 1 (by decide) (hb_ 1 (by decide)) rfl fun _ h => h
            have s24 := sv_ e24
            have hJ := hI.j
            obtain ⟨HBq, Bgq, Bbq, HMq⟩ := hJ
            obtain ⟨cp7_0, cp7_1, cp7_2, cp7_3, cp7_4, cp7_5⟩ := cells6 Bbq.out; 
            exact op_keep hI (i := 2) ⟨HBq, Bgq, Bbq, by rw [up_ne (show (10 : Nat) ≠ 2 by decide)]; exact HMq⟩ (hrun := gs_)
          | 3, _ =>
            intro b a wq hI hbi_ hb_ hoff_
            have e5 : a.eval (.tmp 5) = .map (some m) := hI.old 5 (by decide) rfl
            have s5 := sv_ e5
            have hJ := hI.j
            obtain ⟨HBq, Bgq, Bbq, HMq⟩ := hJ
            obtain ⟨cp7_0, cp7_1, cp7_2, cp7_3, cp7_4, cp7_5⟩ := cells6 Bbq.out; 
            exact op_keep hI (i := 3) ⟨HBq, Bgq, Bbq, by rw [up_ne (show (10 : Nat) ≠ 3 by decide)]; exact HMq⟩ (hrun := gs_)
          | 4, _ =>
            intro b a wq hI hbi_ hb_ hoff_
            have e7 : a.eval (.tmp 7) = .pointer (some ⟨p7, 0, none⟩) := hI.old 7 (by decide) rfl
            have s7 := sv_ e7
            have hJ := hI.j
            obtain ⟨HBq, Bgq, Bbq, HMq⟩ := hJ
            obtain ⟨cp7_0, cp7_1, cp7_2, cp7_3, cp7_4, cp7_5⟩ := cells6 Bbq.out; 
            exact op_keep hI (i := 4) ⟨HBq, Bgq, Bbq, by rw [up_ne (show (10 : Nat) ≠ 4 by decide)]; exact HMq⟩ (hrun := gs_)
          | 5, _ =>
            intro b a wq hI hbi_ hb_ hoff_
            have e27 := hI.new 27 4 (by decide) (hb_ 4 (by decide)) rfl fun _ h => h
            have s27 := sv_ e27
            have hJ := hI.j
            obtain ⟨HBq, Bgq, Bbq, HMq⟩ := hJ
            obtain ⟨cp7_0, cp7_1, cp7_2, cp7_3, cp7_4, cp7_5⟩ := cells6 Bbq.out; 
            exact op_keep hI (i := 5) ⟨HBq, Bgq, Bbq, by rw [up_ne (show (10 : Nat) ≠ 5 by decide)]; exact HMq⟩ (hrun := gs_)
          | 6, _ =>
            intro b a wq hI hbi_ hb_ hoff_
            have e26 := hI.new 26 3 (by decide) (hb_ 3 (by decide)) rfl fun _ h => h
            have s26 := sv_ e26
            have e28 := hI.new 28 5 (by decide) (hb_ 5 (by decide)) rfl fun _ h => h
            have s28 := sv_ e28
            have hJ := hI.j
            obtain ⟨HBq, Bgq, Bbq, HMq⟩ := hJ
            obtain ⟨cp7_0, cp7_1, cp7_2, cp7_3, cp7_4, cp7_5⟩ := cells6 Bbq.out; 
            refine ⟨_, rfl, rfl, fun K hK => ?_⟩
            have hz : (zeroValue 32).run Try.prog wq = .ok (.agg #[.int .i64 0, .int .i64 0]) wq := by kernel_rfl
            have hb10 : b 10 = false := hoff_ 10 (by decide)
            rw [hb10] at HMq
            simp only [Bool.false_eq_true, if_false] at HMq
            have hl := run_lookup (P := Try.prog) (T := 159) (K := 3) (E := 32) HMq Try.underlying159 Try.underlying3 hz (rd_T138 l1 i).f0
            have hl2 : (Instr.lookup 159 (.map (some m)) (.int .i64 (rd_T138 l1 i).f0) false).run Try.prog wq = .ok (rangeV ((mget (L) (rd_T138 l1 i).f0).getD ⟨0, 0⟩)) wq := by
              rw [hl]; cases mget (L) (rd_T138 l1 i).f0 <;> rfl
            refine value_ (N := some 29) rfl rfl (v := rangeV ((mget (L) (rd_T138 l1 i).f0).getD ⟨0, 0⟩)) (w1 := wq) (by unfold execOp; simp [e26, e28, hl2]) (hK _ _ ⟨HBq, Bgq, Bbq, by rw [up_ne (show (10 : Nat) ≠ 6 by decide), hb10]; exact HMq⟩ (fun _ _ h => h) rfl)
          | 7, _ =>
            intro b a wq hI hbi_ hb_ hoff_
            have e7 : a.eval (.tmp 7) = .pointer (some ⟨p7, 0, none⟩) := hI.old 7 (by decide) rfl
            have s7 := sv_ e7
            have hJ := hI.j
            obtain ⟨HBq, Bgq, Bbq, HMq⟩ := hJ
            obtain ⟨cp7_0, cp7_1, cp7_2, cp7_3, cp7_4, cp7_5⟩ := cells6 Bbq.out; 
            exact op_keep hI (i := 7) ⟨HBq, Bgq, Bbq, by rw [up_ne (show (10 : Nat) ≠ 7 by decide)]; exact HMq⟩ (hrun := gs_)
          | 8, _ =>
            intro b a wq hI hbi_ hb_ hoff_
            have e30 := hI.new 30 7 (by decide) (hb_ 7 (by decide)) rfl fun _ h => h
            have s30 := sv_ e30
            have hJ := hI.j
            obtain ⟨HBq, Bgq, Bbq, HMq⟩ := hJ
            obtain ⟨cp7_0, cp7_1, cp7_2, cp7_3, cp7_4, cp7_5⟩ := cells6 Bbq.out; 
            exact op_keep hI (i := 8) ⟨HBq, Bgq, Bbq, by rw [up_ne (show (10 : Nat) ≠ 8 by decide)]; exact HMq⟩ (hrun := gs_)
          | 9, _ =>
            intro b a wq hI hbi_ hb_ hoff_
            have e29 := hI.new 29 6 (by decide) (hb_ 6 (by decide)) rfl fun _ h => h
            have s29 := sv_ e29
            have e31 := hI.new 31 8 (by decide) (hb_ 8 (by decide)) rfl fun _ h => h
            have s31 := sv_ e31
            have hJ := hI.j
            obtain ⟨HBq, Bgq, Bbq, HMq⟩ := hJ
            obtain ⟨cp7_0, cp7_1, cp7_2, cp7_3, cp7_4, cp7_5⟩ := cells6 Bbq.out; 
            refine ⟨_, rfl, rfl, fun K hK => ?_⟩
            have hb10 : b 10 = false := hoff_ 10 (by decide)
            rw [hb10] at HMq
            simp only [Bool.false_eq_true, if_false] at HMq
            refine goes_ Try.func128 (by kernel_rfl) rfl #[rangeV ((mget (L) (rd_T138 l1 i).f0).getD ⟨0, 0⟩), .agg #[.int .i64 (rd_T138 l1 i).f2.f0, .int .i64 (rd_T138 l1 i).f2.f1]] rfl rfl rfl (by simp [e29, e31]) ?_
            refine (plus_any ((mget (L) (rd_T138 l1 i).f0).getD ⟨0, 0⟩) (rd_T138 l1 i).f2 wq).mono ?_
            rintro e w2 ⟨rfl, hb2⟩
            exact ⟨_, rfl, hK _ _ ⟨⟨below_step HBq.out hb2⟩, ⟨blk_below Bgq.out hb2⟩, ⟨blk_below Bbq.out hb2⟩, by rw [up_ne (show (10 : Nat) ≠ 9 by decide), hb10]; exact IsMap.below HMq hb2⟩ (fun k u hk => by revert hk; match k with | 0 => exact id | 1 => exact id | 2 => exact id | 3 => exact id | 4 => exact id | 5 => exact id | 6 => exact id | 7 => exact id | 8 => exact id | 9 => exact id | k + 10 => exact id) rfl⟩
          | 10, _ =>
            intro b a wq hI hbi_ hb_ hoff_
            have e23 := hI.new 23 0 (by decide) (hb_ 0 (by decide)) rfl fun _ h => h
            have s23 := sv_ e23
            have e25 := hI.new 25 2 (by decide) (hb_ 2 (by decide)) rfl fun _ h => h
            have s25 := sv_ e25
            have e32 := hI.new 32 9 (by decide) (hb_ 9 (by decide)) rfl fun _ h => h
            have s32 := sv_ e32
            have hJ := hI.j
            obtain ⟨HBq, Bgq, Bbq, HMq⟩ := hJ
            obtain ⟨cp7_0, cp7_1, cp7_2, cp7_3, cp7_4, cp7_5⟩ := cells6 Bbq.out; 
            refine ⟨_, rfl, rfl, fun K hK => ?_⟩
            have hb10 : b 10 = false := hbi_
            rw [hb10] at HMq
            simp only [Bool.false_eq_true, if_false] at HMq
            obtain ⟨w2, hrun2, hm2, ho2⟩ := run_mapUpdate (P := Try.prog) (T := 159) (K := 3) (E := 32) HMq Try.underlying159 Try.underlying3 (rd_T138 l1 i).f0 (addR ((mget (L) (rd_T138 l1 i).f0).getD ⟨0, 0⟩) (rd_T138 l1 i).f2)
            have hlt : m < wq.heap.size := HMq.lt
            refine skip_ rfl rfl (w1 := w2) (by unfold execOp; simp [e23, e25, e32, hrun2]) (hK undef _ ⟨⟨Only.below ho2 HBq.out Gm.out⟩, ⟨Only.blk ho2 Bgq.out Ngm.out⟩, ⟨Only.blk ho2 Bbq.out (fun e_ => by have h1_ := Bbq.out; rw [e_] at h1_; have h2_ : wq.heap[m]? = _ := HMq; rw [h2_] at h1_; cases h1_)⟩, by rw [up_self]; simp only [if_true]; exact hm2⟩ (fun k u hk => by revert hk; match k with | 0 => exact id | 1 => exact id | 2 => exact id | 3 => exact id | 4 => exact id | 5 => exact id | 6 => exact id | 7 => exact id | 8 => exact id | 9 => exact id | k + 10 => exact id) trivial)
          | o_ + 11, hi => exact absurd hi (by omega)
        intro vs w6 b hall hJ hT
        obtain ⟨Hall, HJ0, HT0⟩ : Aside0 (∀ j, j < 11 → b j = true) ∧ Aside0 _ ∧ Aside0 _ := ⟨⟨hall⟩, ⟨hJ⟩, ⟨hT⟩⟩
        clear hall hJ hT
        have t0_ := HT0.out 0 (by decide) (by decide)
        have t1_ := HT0.out 1 (by decide) (by decide)
        have t2_ := HT0.out 2 (by decide) (by decide)
        have t3_ := HT0.out 3 (by decide) (by decide)
        have t4_ := HT0.out 4 (by decide) (by decide)
        have t5_ := HT0.out 5 (by decide) (by decide)
        have t6_ := HT0.out 6 (by decide) (by decide)
        have t7_ := HT0.out 7 (by decide) (by decide)
        have t8_ := HT0.out 8 (by decide) (by decide)
        have t9_ := HT0.out 9 (by decide) (by decide)
        skip
        simp only [fillAll, show List.range 11 = [0, 1, 2, 3, 4, 5, 6, 7, 8, 9, 10] from rfl]
        rw [(show vs 0 = _ from t0_), (show vs 1 = _ from t1_), (show vs 2 = _ from t2_), (show vs 3 = _ from t3_), (show vs 4 = _ from t4_), (show vs 5 = _ from t5_), (show vs 6 = _ from t6_), (show vs 7 = _ from t7_), (show vs 8 = _ from t8_), (show vs 9 = _ from t9_)]
        clear t0_ t1_ t2_ t3_ t4_ t5_ t6_ t7_ t8_ t9_
        simp only [Act.put, List.setIfInBounds_toArray, List.set_cons_zero, List.set_cons_succ]
        obtain ⟨HBn, ng, np7, Mn⟩ := HJ0.out
        clear HB Bm Bg Bp7
        have HB := HBn
        clear HBn
        have Bg := ng
        clear ng
        (try clear cg_0 cg_1 cg_2 cg_3 cg_4); obtain ⟨cg_0, cg_1, cg_2, cg_3, cg_4⟩ := cells5 Bg.out; 
        have Bp7 := np7
        clear np7
        (try clear cp7_0 cp7_1 cp7_2 cp7_3 cp7_4 cp7_5); obtain ⟨cp7_0, cp7_1, cp7_2, cp7_3, cp7_4, cp7_5⟩ := cells6 Bp7.out; 
        rw [Hall.out 10 (by decide), if_pos rfl] at Mn
        have Bm := Aside0.mk Mn
        clear Mn HJ0 HT0 Hall
        go_wp2
        refine region_ri (n := 11) (B := [0, 0, 2, 0, 0, 16, 56, 0, 128, 504, 1023]) (fun o_ => match o_ with | 0 => some 33 | 1 => some 34 | 2 => some 35 | 3 => some 36 | 4 => some 37 | 5 => some 38 | 6 => some 39 | 7 => some 40 | 8 => some 41 | 9 => some 42 | 10 => none | _ => none) (fun o_ q_ w' => match o_ with | 0 => q_ = .map (some m) | 1 => q_ = .pointer (some ⟨p7, 1, none⟩) | 2 => q_ = .int .i64 (rd_T138 l1 i).f1 | 3 => q_ = .map (some m) | 4 => q_ = .pointer (some ⟨p7, 1, none⟩) | 5 => q_ = .int .i64 (rd_T138 l1 i).f1 | 6 => q_ = rangeV ((mget (addAt L (rd_T138 l1 i).f0 (rd_T138 l1 i).f2) (rd_T138 l1 i).f1).getD ⟨0, 0⟩) | 7 => q_ = .pointer (some ⟨p7, 4, none⟩) | 8 => q_ = .agg #[.int .i64 (rd_T138 l1 i).f3.f0, .int .i64 (rd_T138 l1 i).f3.f1] | 9 => q_ = rangeV (addR ((mget (addAt L (rd_T138 l1 i).f0 (rd_T138 l1 i).f2) (rd_T138 l1 i).f1).getD ⟨0, 0⟩) (rd_T138 l1 i).f3) | _ => True) (fun b w' => Aside0 (Below w.heap.size w w') ∧ Aside0 (w'.heap[g]? = some (.cells #[.slice A0 n0 c0, .slice (some ad) l1.length c1, .slice A2 l2.length c2, .slice A3 n3 c3, .slice A4 n4 c4] 29 (0, 0))) ∧ Aside0 (w'.heap[p7]? = some (.cells #[.int .i64 (rd_T138 l1 i).f0, .int .i64 (rd_T138 l1 i).f1, .int .i64 (rd_T138 l1 i).f2.f0, .int .i64 (rd_T138 l1 i).f2.f1, .int .i64 (rd_T138 l1 i).f3.f0, .int .i64 (rd_T138 l1 i).f3.f1] 138 (0, 0))) ∧ IsMap .i64 rangeV w' m (if b 10 = true then addAt (addAt L (rd_T138 l1 i).f0 (rd_T138 l1 i).f2) (rd_T138 l1 i).f1 (rd_T138 l1 i).f3 else addAt L (rd_T138 l1 i).f0 (rd_T138 l1 i).f2)) rfl rfl (by kernel_rfl) (by kernel_rfl) (by kernel_rfl) ⟨⟨below_drew ((bel_r HB))⟩, ⟨Bg.out⟩, ⟨Bp7.out⟩, Bm.out⟩ ?_ ?_
        · intro o_ hi
          match o_, hi with
          | 0, _ =>
            intro b a wq hI hbi_ hb_ hoff_
            have e5 : a.eval (.tmp 5) = .map (some m) := hI.old 5 (by decide) rfl
            have s5 := sv_ e5
            have hJ := hI.j
            obtain ⟨HBq, Bgq, Bbq, HMq⟩ := hJ
            obtain ⟨cp7_0, cp7_1, cp7_2, cp7_3, cp7_4, cp7_5⟩ := cells6 Bbq.out; 
            exact op_keep hI (i := 0) ⟨HBq, Bgq, Bbq, by rw [up_ne (show (10 : Nat) ≠ 0 by decide)]; exact HMq⟩ (hrun := gs_)
          | 1, _ =>
            intro b a wq hI hbi_ hb_ hoff_
            have e7 : a.eval (.tmp 7) = .pointer (some ⟨p7, 0, none⟩) := hI.old 7 (by decide) rfl
            have s7 := sv_ e7
            have hJ := hI.j
            obtain ⟨HBq, Bgq, Bbq, HMq⟩ := hJ
            obtain ⟨cp7_0, cp7_1, cp7_2, cp7_3, cp7_4, cp7_5⟩ := cells6 Bbq.out; 
            exact op_keep hI (i := 1) ⟨HBq, Bgq, Bbq, by rw [up_ne (show (10 : Nat) ≠ 1 by decide)]; exact HMq⟩ (hrun := gs_)
          | 2, _ =>
            intro b a wq hI hbi_ hb_ hoff_
            have e34 := hI.new 34 1 (by decide) (hb_ 1 (by decide)) rfl fun _ h => h
            have s34 := sv_ e34
            have hJ := hI.j
            obtain ⟨HBq, Bgq, Bbq, HMq⟩ := hJ
            obtain ⟨cp7_0, cp7_1, cp7_2, cp7_3, cp7_4, cp7_5⟩ := cells6 Bbq.out; 
            exact op_keep hI (i := 2) ⟨HBq, Bgq, Bbq, by rw [up_ne (show (10 : Nat) ≠ 2 by decide)]; exact HMq⟩ (hrun := gs_)
          | 3, _ =>
            intro b a wq hI hbi_ hb_ hoff_
            have e5 : a.eval (.tmp 5) = .map (some m) := hI.old 5 (by decide) rfl
            have s5 := sv_ e5
            have hJ := hI.j
            obtain ⟨HBq, Bgq, Bbq, HMq⟩ := hJ
            obtain ⟨cp7_0, cp7_1, cp7_2, cp7_3, cp7_4, cp7_5⟩ := cells6 Bbq.out; 
            exact op_keep hI (i := 3) ⟨HBq, Bgq, Bbq, by rw [up_ne (show (10 : Nat) ≠ 3 by decide)]; exact HMq⟩ (hrun := gs_)
          | 4, _ =>
            intro b a wq hI hbi_ hb_ hoff_
            have e7 : a.eval (.tmp 7) = .pointer (some ⟨p7, 0, none⟩) := hI.old 7 (by decide) rfl
            have s7 := sv_ e7
            have hJ := hI.j
            obtain ⟨HBq, Bgq, Bbq, HMq⟩ := hJ
            obtain ⟨cp7_0, cp7_1, cp7_2, cp7_3, cp7_4, cp7_5⟩ := cells6 Bbq.out; 
            exact op_keep hI (i := 4) ⟨HBq, Bgq, Bbq, by rw [up_ne (show (10 : Nat) ≠ 4 by decide)]; exact HMq⟩ (hrun := gs_)
          | 5, _ =>
            intro b a wq hI hbi_ hb_ hoff_
            have e37 := hI.new 37 4 (by decide) (hb_ 4 (by decide)) rfl fun _ h => h
            have s37 := sv_ e37
            have hJ := hI.j
            obtain ⟨HBq, Bgq, Bbq, HMq⟩ := hJ
            obtain ⟨cp7_0, cp7_1, cp7_2, cp7_3, cp7_4, cp7_5⟩ := cells6 Bbq.out; 
            exact op_keep hI (i := 5) ⟨HBq, Bgq, Bbq, by rw [up_ne (show (10 : Nat) ≠ 5 by decide)]; exact HMq⟩ (hrun := gs_)
          | 6, _ =>
            intro b a wq hI hbi_ hb_ hoff_
            have e36 := hI.new 36 3 (by decide) (hb_ 3 (by decide)) rfl fun _ h => h
            have s36 := sv_ e36
            have e38 := hI.new 38 5 (by decide) (hb_ 5 (by decide)) rfl fun _ h => h
            have s38 := sv_ e38
            have hJ := hI.j
            obtain ⟨HBq, Bgq, Bbq, HMq⟩ := hJ
            obtain ⟨cp7_0, cp7_1, cp7_2, cp7_3, cp7_4, cp7_5⟩ := cells6 Bbq.out; 
            refine ⟨_, rfl, rfl, fun K hK => ?_⟩
            have hz : (zeroValue 32).run Try.prog wq = .ok (.agg #[.int .i64 0, .int .i64 0]) wq := by kernel_rfl
            have hb10 : b 10 = false := hoff_ 10 (by decide)
            rw [hb10] at HMq
            simp only [Bool.false_eq_true, if_false] at HMq
            have hl := run_lookup (P := Try.prog) (T := 159) (K := 3) (E := 32) HMq Try.underlying159 Try.underlying3 hz (rd_T138 l1 i).f1
            have hl2 : (Instr.lookup 159 (.map (some m)) (.int .i64 (rd_T138 l1 i).f1) false).run Try.prog wq = .ok (rangeV ((mget (addAt L (rd_T138 l1 i).f0 (rd_T138 l1 i).f2) (rd_T138 l1 i).f1).getD ⟨0, 0⟩)) wq := by
              rw [hl]; cases mget (addAt L (rd_T138 l1 i).f0 (rd_T138 l1 i).f2) (rd_T138 l1 i).f1 <;> rfl
            refine value_ (N := some 39) rfl rfl (v := rangeV ((mget (addAt L (rd_T138 l1 i).f0 (rd_T138 l1 i).f2) (rd_T138 l1 i).f1).getD ⟨0, 0⟩)) (w1 := wq) (by unfold execOp; simp [e36, e38, hl2]) (hK _ _ ⟨HBq, Bgq, Bbq, by rw [up_ne (show (10 : Nat) ≠ 6 by decide), hb10]; exact HMq⟩ (fun _ _ h => h) rfl)
          | 7, _ =>
            intro b a wq hI hbi_ hb_ hoff_
            have e7 : a.eval (.tmp 7) = .pointer (some ⟨p7, 0, none⟩) := hI.old 7 (by decide) rfl
            have s7 := sv_ e7
            have hJ := hI.j
            obtain ⟨HBq, Bgq, Bbq, HMq⟩ := hJ
            obtain ⟨cp7_0, cp7_1, cp7_2, cp7_3, cp7_4, cp7_5⟩ := cells6 Bbq.out; 
            exact op_keep hI (i := 7) ⟨HBq, Bgq, Bbq, by rw [up_ne (show (10 : Nat) ≠ 7 by decide)]; exact HMq⟩ (hrun := gs_)
          | 8, _ =>
            intro b a wq hI hbi_ hb_ hoff_
            have e40 := hI.new 40 7 (by decide) (hb_ 7 (by decide)) rfl fun _ h => h
            have s40 := sv_ e40
            have hJ := hI.j
            obtain ⟨HBq, Bgq, Bbq, HMq⟩ := hJ
            obtain ⟨cp7_0, cp7_1, cp7_2, cp7_3, cp7_4, cp7_5⟩ := cells6 Bbq.out; 
            exact op_keep hI (i := 8) ⟨HBq, Bgq, Bbq, by rw [up_ne (show (10 : Nat) ≠ 8 by decide)]; exact HMq⟩ (hrun := gs_)
          | 9, _ =>
            intro b a wq hI hbi_ hb_ hoff_
            have e39 := hI.new 39 6 (by decide) (hb_ 6 (by decide)) rfl fun _ h => h
            have s39 := sv_ e39
            have e41 := hI.new 41 8 (by decide) (hb_ 8 (by decide)) rfl fun _ h => h
            have s41 := sv_ e41
            have hJ := hI.j
            obtain ⟨HBq, Bgq, Bbq, HMq⟩ := hJ
            obtain ⟨cp7_0, cp7_1, cp7_2, cp7_3, cp7_4, cp7_5⟩ := cells6 Bbq.out; 
            refine ⟨_, rfl, rfl, fun K hK => ?_⟩
            have hb10 : b 10 = false := hoff_ 10 (by decide)
            rw [hb10] at HMq
            simp only [Bool.false_eq_true, if_false] at HMq
            refine goes_ Try.func128 (by kernel_rfl) rfl #[rangeV ((mget (addAt L (rd_T138 l1 i).f0 (rd_T138 l1 i).f2) (rd_T138 l1 i).f1).getD ⟨0, 0⟩), .agg #[.int .i64 (rd_T138 l1 i).f3.f0, .int .i64 (rd_T138 l1 i).f3.f1]] rfl rfl rfl (by simp [e39, e41]) ?_
            refine (plus_any ((mget (addAt L (rd_T138 l1 i).f0 (rd_T138 l1 i).f2) (rd_T138 l1 i).f1).getD ⟨0, 0⟩) (rd_T138 l1 i).f3 wq).mono ?_
            rintro e w2 ⟨rfl, hb2⟩
            exact ⟨_, rfl, hK _ _ ⟨⟨below_step HBq.out hb2⟩, ⟨blk_below Bgq.out hb2⟩, ⟨blk_below Bbq.out hb2⟩, by rw [up_ne (show (10 : Nat) ≠ 9 by decide), hb10]; exact IsMap.below HMq hb2⟩ (fun k u hk => by revert hk; match k with | 0 => exact id | 1 => exact id | 2 => exact id | 3 => exact id | 4 => exact id | 5 => exact id | 6 => exact id | 7 => exact id | 8 => exact id | 9 => exact id | k + 10 => exact id) rfl⟩
          | 10, _ =>
            intro b a wq hI hbi_ hb_ hoff_
            have e33 := hI.new 33 0 (by decide) (hb_ 0 (by decide)) rfl fun _ h => h
            have s33 := sv_ e33
            have e35 := hI.new 35 2 (by decide) (hb_ 2 (by decide)) rfl fun _ h => h
            have s35 := sv_ e35
            have e42 := hI.new 42 9 (by decide) (hb_ 9 (by decide)) rfl fun _ h => h
            have s42 := sv_ e42
            have hJ := hI.j
            obtain ⟨HBq, Bgq, Bbq, HMq⟩ := hJ
            obtain ⟨cp7_0, cp7_1, cp7_2, cp7_3, cp7_4, cp7_5⟩ := cells6 Bbq.out; 
            refine ⟨_, rfl, rfl, fun K hK => ?_⟩
            have hb10 : b 10 = false := hbi_
            rw [hb10] at HMq
            simp only [Bool.false_eq_true, if_false] at HMq
            obtain ⟨w2, hrun2, hm2, ho2⟩ := run_mapUpdate (P := Try.prog) (T := 159) (K := 3) (E := 32) HMq Try.underlying159 Try.underlying3 (rd_T138 l1 i).f1 (addR ((mget (addAt L (rd_T138 l1 i).f0 (rd_T138 l1 i).f2) (rd_T138 l1 i).f1).getD ⟨0, 0⟩) (rd_T138 l1 i).f3)
            have hlt : m < wq.heap.size := HMq.lt
            refine skip_ rfl rfl (w1 := w2) (by unfold execOp; simp [e33, e35, e42, hrun2]) (hK undef _ ⟨⟨Only.below ho2 HBq.out Gm.out⟩, ⟨Only.blk ho2 Bgq.out Ngm.out⟩, ⟨Only.blk ho2 Bbq.out (fun e_ => by have h1_ := Bbq.out; rw [e_] at h1_; have h2_ : wq.heap[m]? = _ := HMq; rw [h2_] at h1_; cases h1_)⟩, by rw [up_self]; simp only [if_true]; exact hm2⟩ (fun k u hk => by revert hk; match k with | 0 => exact id | 1 => exact id | 2 => exact id | 3 => exact id | 4 => exact id | 5 => exact id | 6 => exact id | 7 => exact id | 8 => exact id | 9 => exact id | k + 10 => exact id) trivial)
          | o_ + 11, hi => exact absurd hi (by omega)
        intro vs w7 b hall hJ hT
        obtain ⟨Hall, HJ0, HT0⟩ : Aside0 (∀ j, j < 11 → b j = true) ∧ Aside0 _ ∧ Aside0 _ := ⟨⟨hall⟩, ⟨hJ⟩, ⟨hT⟩⟩
        clear hall hJ hT
        have t0_ := HT0.out 0 (by decide) (by decide)
        have t1_ := HT0.out 1 (by decide) (by decide)
        have t2_ := HT0.out 2 (by decide) (by decide)
        have t3_ := HT0.out 3 (by decide) (by decide)
        have t4_ := HT0.out 4 (by decide) (by decide)
        have t5_ := HT0.out 5 (by decide) (by decide)
        have t6_ := HT0.out 6 (by decide) (by decide)
        have t7_ := HT0.out 7 (by decide) (by decide)
        have t8_ := HT0.out 8 (by decide) (by decide)
        have t9_ := HT0.out 9 (by decide) (by decide)
        skip
        simp only [fillAll, show List.range 11 = [0, 1, 2, 3, 4, 5, 6, 7, 8, 9, 10] from rfl]
        rw [(show vs 0 = _ from t0_), (show vs 1 = _ from t1_), (show vs 2 = _ from t2_), (show vs 3 = _ from t3_), (show vs 4 = _ from t4_), (show vs 5 = _ from t5_), (show vs 6 = _ from t6_), (show vs 7 = _ from t7_), (show vs 8 = _ from t8_), (show vs 9 = _ from t9_)]
        clear t0_ t1_ t2_ t3_ t4_ t5_ t6_ t7_ t8_ t9_
        simp only [Act.put, List.setIfInBounds_toArray, List.set_cons_zero, List.set_cons_succ]
        obtain ⟨HBn, ng, np7, Mn⟩ := HJ0.out
        clear HB Bm Bg Bp7
        have HB := HBn
        clear HBn
        have Bg := ng
        clear ng
        (try clear cg_0 cg_1 cg_2 cg_3 cg_4); obtain ⟨cg_0, cg_1, cg_2, cg_3, cg_4⟩ := cells5 Bg.out; 
        have Bp7 := np7
        clear np7
        (try clear cp7_0 cp7_1 cp7_2 cp7_3 cp7_4 cp7_5); obtain ⟨cp7_0, cp7_1, cp7_2, cp7_3, cp7_4, cp7_5⟩ := cells6 Bp7.out; 
        rw [Hall.out 10 (by decide), if_pos rfl] at Mn
        have Bm := Aside0.mk Mn
        clear Mn HJ0 HT0 Hall
        go_wp2
        go_roundg (l1.length - (i + 1).toNat)
        case measure => have := Hn.out; omega
        case rel => exact ⟨i + 1, _, by omega, rfl, by omega, rfl, ⟨by rw [HE.out, HD.out, pipesL, HS.out, if_neg (by simp)]⟩, Bm, Bg, HB⟩
      · have HS := Aside0.mk hs
        go_wp2_with (first | ((with_reducible refine gate_dst (N := 7) rfl ?_); go_must (refine box_ev (N := 7) (cs := #[.int .i64 0, .int .i64 0, .int .i64 0, .int .i64 0, .int .i64 0, .int .i64 0]) (t := 138) (h := ?_); intro p7 hgp7 w3 hbox hb; have GEp7 := ge_new HB hgp7; have N_g_p7 := ne_new Bg hgp7; have N_m_p7 := ne_new Bm hgp7; replace HB := bel_b hb HB; replace Bg := blk_b hb Bg; (try clear cg_0 cg_1 cg_2 cg_3 cg_4); obtain ⟨cg_0, cg_1, cg_2, cg_3, cg_4⟩ := cells5 Bg.out; replace Bm := map_b hb Bm; have Bp7 := Aside0.mk hbox; clear hbox; obtain ⟨cp7_0, cp7_1, cp7_2, cp7_3, cp7_4, cp7_5⟩ := cells6 Bp7.out; (try clear hb); clear hgp7)) | ((with_reducible refine gate_store (t := 138) (p := 7) rfl ?_); go_must (refine row_ev p7 #[.int .i64 (rd_T138 l1 i).f0, .int .i64 (rd_T138 l1 i).f1, .int .i64 (rd_T138 l1 i).f2.f0, .int .i64 (rd_T138 l1 i).f2.f1, .int .i64 (rd_T138 l1 i).f3.f0, .int .i64 (rd_T138 l1 i).f3.f1] Bp7.out (h := ?_); intro w4 hbox ho_; replace HB := bel_o ho_ HB GEp7; replace Bg := blk_o ho_ Bg (by first | exact N_g_p7.out | exact N_p7_g.out.symm); (try clear cg_0 cg_1 cg_2 cg_3 cg_4); obtain ⟨cg_0, cg_1, cg_2, cg_3, cg_4⟩ := cells5 Bg.out; replace Bm := map_o ho_ Bm (by first | exact N_m_p7.out | exact N_p7_m.out.symm); replace Bp7 := Aside0.mk hbox; clear hbox ho_; (try clear cp7_0 cp7_1 cp7_2 cp7_3 cp7_4 cp7_5); obtain ⟨cp7_0, cp7_1, cp7_2, cp7_3, cp7_4, cp7_5⟩ := cells6 Bp7.out; )) | ((with_reducible refine gate_callee (f := 127) rfl ?_); refine goes_c (some 21) Try.func127 (contains_any sh i As cs _ (Kd.C_below HRS.out HB.out) HCS.out HLS.out) (h := ?_); rintro e w5 ⟨rfl, hd_⟩; refine ⟨_, rfl, ?_⟩; have hb := Drawn0.below hd_; clear hd_; replace HB := bel_b hb HB; replace Bg := blk_b hb Bg; (try clear cg_0 cg_1 cg_2 cg_3 cg_4); obtain ⟨cg_0, cg_1, cg_2, cg_3, cg_4⟩ := cells5 Bg.out; replace Bm := map_b hb Bm; replace Bp7 := blk_b hb Bp7; (try clear cp7_0 cp7_1 cp7_2 cp7_3 cp7_4 cp7_5); obtain ⟨cp7_0, cp7_1, cp7_2, cp7_3, cp7_4, cp7_5⟩ := cells6 Bp7.out; (try clear hb); ))
        go_roundg (l1.length - (i + 1).toNat)
        case measure => have := Hn.out; omega
        case rel => exact ⟨i + 1, L, by omega, rfl, by omega, rfl, ⟨by rw [HE.out, HD.out, pipesL, HS.out, if_pos rfl]⟩, ⟨Bm.out⟩, ⟨Bg.out⟩, ⟨(bel_r HB)⟩⟩
    · have HE0 : Aside0 (leavingL l1 l2 sh = pumpsL l2 L) := ⟨by unfold leavingL; rw [HE.out, List.drop_eq_nil_of_le (by omega)]; rfl⟩
      clear HE Hn hi hi0
      go_wp2
      go_loopg [47] (l2.length) (fun k v47 w' => ∃ (i : Int) (L2 : List (Int × S32)), 0 ≤ i ∧ k = l2.length - i.toNat ∧ i ≤ l2.length ∧ v47 = .int .i64 i ∧ Aside0 (pumpsL l2 L = pumpsL (l2.drop i.toNat) L2) ∧ Aside0 (IsMap .i64 rangeV w' m L2) ∧ Aside0 (w'.heap[g]? = some (.cells #[.slice A0 n0 c0, .slice A1 l1.length c1, .slice A2 l2.length c2, .slice A3 n3 c3, .slice A4 n4 c4] 29 (0, 0))) ∧ Aside0 (Below w.heap.size w w'))
      case atStart => exact ⟨0, L, by omega, by simp, by omega, rfl, ⟨by simp⟩, ⟨Bm.out⟩, ⟨Bg.out⟩, ⟨(bel_r HB)⟩⟩
      case round =>
        clear HB Bm Bg
        obtain ⟨i, M2, hi0, hn, hi, rfl, HE, Bm, Bg, HB⟩ := hrel
        have Hn := Aside0.mk hn
        clear hn
        obtain ⟨cg_0, cg_1, cg_2, cg_3, cg_4⟩ := cells5 Bg.out; 
        by_cases hi' : i < l2.length
        · have HD : Aside0 (l2.drop i.toNat = (rd_T112 l2 i) :: l2.drop (i + 1).toNat) := ⟨by
            rw [show (i + 1).toNat = i.toNat + 1 by omega, List.drop_eq_getElem_cons (by omega)]; unfold rd_T112; simp [List.getD_eq_getElem?_getD, List.getElem?_eq_getElem (show i.toNat < l2.length by omega)]⟩
          obtain ⟨ad, had, k0, k1, k2⟩ := at_T112 HR2.out i hi0 hi'
          replace k0 := pw_cell_below HB.out k0
          replace k1 := pw_cell_below HB.out k1
          replace k2 := pw_cell_below HB.out k2
          cases had
          go_wp2_with (first | ((with_reducible refine gate_dst (N := 9) rfl ?_); go_must (refine box_ev (N := 9) (cs := #[.int .i64 0, .int .i64 0, .int .i64 0]) (t := 112) (h := ?_); intro p9 hgp9 w3 hbox hb; have GEp9 := ge_new HB hgp9; have N_g_p9 := ne_new Bg hgp9; have N_m_p9 := ne_new Bm hgp9; replace HB := bel_b hb HB; replace Bg := blk_b hb Bg; (try clear cg_0 cg_1 cg_2 cg_3 cg_4); obtain ⟨cg_0, cg_1, cg_2, cg_3, cg_4⟩ := cells5 Bg.out; replace Bm := map_b hb Bm; have Bp9 := Aside0.mk hbox; clear hbox; obtain ⟨cp9_0, cp9_1, cp9_2⟩ := cells3 Bp9.out; (try clear hb); clear hgp9)) | ((with_reducible refine gate_store (t := 112) (p := 9) rfl ?_); go_must (refine row_ev p9 #[.int .i64 (rd_T112 l2 i).f0, .int .i64 (rd_T112 l2 i).f1.f0, .int .i64 (rd_T112 l2 i).f1.f1] Bp9.out (h := ?_); intro w4 hbox ho_; replace HB := bel_o ho_ HB GEp9; replace Bg := blk_o ho_ Bg (by first | exact N_g_p9.out | exact N_p9_g.out.symm); (try clear cg_0 cg_1 cg_2 cg_3 cg_4); obtain ⟨cg_0, cg_1, cg_2, cg_3, cg_4⟩ := cells5 Bg.out; replace Bm := map_o ho_ Bm (by first | exact N_m_p9.out | exact N_p9_m.out.symm); replace Bp9 := Aside0.mk hbox; clear hbox ho_; (try clear cp9_0 cp9_1 cp9_2); obtain ⟨cp9_0, cp9_1, cp9_2⟩ := cells3 Bp9.out; )))
          refine region_ri (n := 11) (B := [0, 0, 2, 0, 0, 16, 56, 0, 128, 504, 1023]) (fun o_ => match o_ with | 0 => some 51 | 1 => some 52 | 2 => some 53 | 3 => some 54 | 4 => some 55 | 5 => some 56 | 6 => some 57 | 7 => some 58 | 8 => some 59 | 9 => some 60 | 10 => none | _ => none) (fun o_ q_ w' => match o_ with | 0 => q_ = .map (some m) | 1 => q_ = .pointer (some ⟨p9, 0, none⟩) | 2 => q_ = .int .i64 (rd_T112 l2 i).f0 | 3 => q_ = .map (some m) | 4 => q_ = .pointer (some ⟨p9, 0, none⟩) | 5 => q_ = .int .i64 (rd_T112 l2 i).f0 | 6 => q_ = rangeV ((mget (M2) (rd_T112 l2 i).f0).getD ⟨0, 0⟩) | 7 => q_ = .pointer (some ⟨p9, 1, none⟩) | 8 => q_ = .agg #[.int .i64 (rd_T112 l2 i).f1.f0, .int .i64 (rd_T112 l2 i).f1.f1] | 9 => q_ = rangeV (addR ((mget (M2) (rd_T112 l2 i).f0).getD ⟨0, 0⟩) (rd_T112 l2 i).f1) | _ => True) (fun b w' => Aside0 (Below w.heap.size w w') ∧ Aside0 (w'.heap[g]? = some (.cells #[.slice A0 n0 c0, .slice A1 l1.length c1, .slice (some ad) l2.length c2, .slice A3 n3 c3, .slice A4 n4 c4] 29 (0, 0))) ∧ Aside0 (w'.heap[p9]? = some (.cells #[.int .i64 (rd_T112 l2 i).f0, .int .i64 (rd_T112 l2 i).f1.f0, .int .i64 (rd_T112 l2 i).f1.f1] 112 (0, 0))) ∧ IsMap .i64 rangeV w' m (if b 10 = true then addAt M2 (rd_T112 l2 i).f0 (rd_T112 l2 i).f1 else M2)) rfl rfl (by kernel_rfl) (by kernel_rfl) (by kernel_rfl) ⟨⟨below_drew ((bel_r HB))⟩, ⟨Bg.out⟩, ⟨Bp9.out⟩, Bm.out⟩ ?_ ?_
          · intro o_ hi
            match o_, hi with
            | 0, _ =>
              intro b a wq hI hbi_ hb_ hoff_
              have e5 : a.eval (.tmp 5) = .map (some m) := hI.old 5 (by decide) rfl
              have s5 := sv_ e5
              have hJ := hI.j
              obtain ⟨HBq, Bgq, Bbq, HMq⟩ := hJ
              obtain ⟨cp9_0, cp9_1, cp9_2⟩ := cells3 Bbq.out; 
              exact op_keep hI (i := 0) ⟨HBq, Bgq, Bbq, by rw [up_ne (show (10 : Nat) ≠ 0 by decide)]; exact HMq⟩ (hrun := gs_)
            | 1, _ =>
              intro b a wq hI hbi_ hb_ hoff_
              have e9 : a.eval (.tmp 9) = .pointer (some ⟨p9, 0, none⟩) := hI.old 9 (by decide) rfl
              have s9 := sv_ e9
              have hJ := hI.j
              obtain ⟨HBq, Bgq, Bbq, HMq⟩ := hJ
              obtain ⟨cp9_0, cp9_1, cp9_2⟩ := cells3 Bbq.out; 
              exact op_keep hI (i := 1) ⟨HBq, Bgq, Bbq, by rw [up_ne (show (10 : Nat) ≠ 1 by decide)]; exact HMq⟩ (hrun := gs_)
            | 2, _ =>
              intro b a wq hI hbi_ hb_ hoff_
              have e52 := hI.new 52 1 (by decide) (hb_ 1 (by decide)) rfl fun _ h => h
              have s52 := sv_ e52
              have hJ := hI.j
              obtain ⟨HBq, Bgq, Bbq, HMq⟩ := hJ
              obtain ⟨cp9_0, cp9_1, cp9_2⟩ := cells3 Bbq.out; 
              exact op_keep hI (i := 2) ⟨HBq, Bgq, Bbq, by rw [up_ne (show (10 : Nat) ≠ 2 by decide)]; exact HMq⟩ (hrun := gs_)
            | 3, _ =>
              intro b a wq hI hbi_ hb_ hoff_
              have e5 : a.eval (.tmp 5) = .map (some m) := hI.old 5 (by decide) rfl
              have s5 := sv_ e5
              have hJ := hI.j
              obtain ⟨HBq, Bgq, Bbq, HMq⟩ := hJ
              obtain ⟨cp9_0, cp9_1, cp9_2⟩ := cells3 Bbq.out; 
              exact op_keep hI (i := 3) ⟨HBq, Bgq, Bbq, by rw [up_ne (show (10 : Nat) ≠ 3 by decide)]; exact HMq⟩ (hrun := gs_)
            | 4, _ =>
              intro b a wq hI hbi_ hb_ hoff_
              have e9 : a.eval (.tmp 9) = .pointer (some ⟨p9, 0, none⟩) := hI.old 9 (by decide) rfl
              have s9 := sv_ e9
              have hJ := hI.j
              obtain ⟨HBq, Bgq, Bbq, HMq⟩ := hJ
              obtain ⟨cp9_0, cp9_1, cp9_2⟩ := cells3 Bbq.out; 
              exact op_keep hI (i := 4) ⟨HBq, Bgq, Bbq, by rw [up_ne (show (10 : Nat) ≠ 4 by decide)]; exact HMq⟩ (hrun := gs_)
            | 5, _ =>
              intro b a wq hI hbi_ hb_ hoff_
              have e55 := hI.new 55 4 (by decide) (hb_ 4 (by decide)) rfl fun _ h => h
              have s55 := sv_ e55
              have hJ := hI.j
              obtain ⟨HBq, Bgq, Bbq, HMq⟩ := hJ
              obtain ⟨cp9_0, cp9_1, cp9_2⟩ := cells3 Bbq.out; 
              exact op_keep hI (i := 5) ⟨HBq, Bgq, Bbq, by rw [up_ne (show (10 : Nat) ≠ 5 by decide)]; exact HMq⟩ (hrun := gs_)
            | 6, _ =>
              intro b a wq hI hbi_ hb_ hoff_
              have e54 := hI.new 54 3 (by decide) (hb_ 3 (by decide)) rfl fun _ h => h
              have s54 := sv_ e54
              have e56 := hI.new 56 5 (by decide) (hb_ 5 (by decide)) rfl fun _ h => h
              have s56 := sv_ e56
              have hJ := hI.j
              obtain ⟨HBq, Bgq, Bbq, HMq⟩ := hJ
              obtain ⟨cp9_0, cp9_1, cp9_2⟩ := cells3 Bbq.out; 
              refine ⟨_, rfl, rfl, fun K hK => ?_⟩
              have hz : (zeroValue 32).run Try.prog wq = .ok (.agg #[.int .i64 0, .int .i64 0]) wq := by kernel_rfl
              have hb10 : b 10 = false := hoff_ 10 (by decide)
              rw [hb10] at HMq
              simp only [Bool.false_eq_true, if_false] at HMq
              have hl := run_lookup (P := Try.prog) (T := 159) (K := 3) (E := 32) HMq Try.underlying159 Try.underlying3 hz (rd_T112 l2 i).f0
              have hl2 : (Instr.lookup 159 (.map (some m)) (.int .i64 (rd_T112 l2 i).f0) false).run Try.prog wq = .ok (rangeV ((mget (M2) (rd_T112 l2 i).f0).getD ⟨0, 0⟩)) wq := by
                rw [hl]; cases mget (M2) (rd_T112 l2 i).f0 <;> rfl
              refine value_ (N := some 57) rfl rfl (v := rangeV ((mget (M2) (rd_T112 l2 i).f0).getD ⟨0, 0⟩)) (w1 := wq) (by unfold execOp; simp [e54, e56, hl2]) (hK _ _ ⟨HBq, Bgq, Bbq, by rw [up_ne (show (10 : Nat) ≠ 6 by decide), hb10]; exact HMq⟩ (fun _ _ h => h) rfl)
            | 7, _ =>
              intro b a wq hI hbi_ hb_ hoff_
              have e9 : a.eval (.tmp 9) = .pointer (some ⟨p9, 0, none⟩) := hI.old 9 (by decide) rfl
              have s9 := sv_ e9
              have hJ := hI.j
              obtain ⟨HBq, Bgq, Bbq, HMq⟩ := hJ
              obtain ⟨cp9_0, cp9_1, cp9_2⟩ := cells3 Bbq.out; 
              exact op_keep hI (i := 7) ⟨HBq, Bgq, Bbq, by rw [up_ne (show (10 : Nat) ≠ 7 by decide)]; exact HMq⟩ (hrun := gs_)
            | 8, _ =>
              intro b a wq hI hbi_ hb_ hoff_
              have e58 := hI.new 58 7 (by decide) (hb_ 7 (by decide)) rfl fun _ h => h
              have s58 := sv_ e58
              have hJ := hI.j
              obtain ⟨HBq, Bgq, Bbq, HMq⟩ := hJ
              obtain ⟨cp9_0, cp9_1, cp9_2⟩ := cells3 Bbq.out; 
              exact op_keep hI (i := 8) ⟨HBq, Bgq, Bbq, by rw [up_ne (show (10 : Nat) ≠ 8 by decide)]; exact HMq⟩ (hrun := gs_)
            | 9, _ =>
              intro b a wq hI hbi_ hb_ hoff_
              have e57 := hI.new 57 6 (by decide) (hb_ 6 (by decide)) rfl fun _ h => h
              have s57 := sv_ e57
              have e59 := hI.new 59 8 (by decide) (hb_ 8 (by decide)) rfl fun _ h => h
              have s59 := sv_ e59
              have hJ := hI.j
              obtain ⟨HBq, Bgq, Bbq, HMq⟩ := hJ
              obtain ⟨cp9_0, cp9_1, cp9_2⟩ := cells3 Bbq.out; 
              refine ⟨_, rfl, rfl, fun K hK => ?_⟩
              have hb10 : b 10 = false := hoff_ 10 (by decide)
              rw [hb10] at HMq
              simp only [Bool.false_eq_true, if_false] at HMq
              refine goes_ Try.func128 (by kernel_rfl) rfl #[rangeV ((mget (M2) (rd_T112 l2 i).f0).getD ⟨0, 0⟩), .agg #[.int .i64 (rd_T112 l2 i).f1.f0, .int .i64 (rd_T112 l2 i).f1.f1]] rfl rfl rfl (by simp [e57, e59]) ?_
              refine (plus_any ((mget (M2) (rd_T112 l2 i).f0).getD ⟨0, 0⟩) (rd_T112 l2 i).f1 wq).mono ?_
              rintro e w2 ⟨rfl, hb2⟩
              exact ⟨_, rfl, hK _ _ ⟨⟨below_step HBq.out hb2⟩, ⟨blk_below Bgq.out hb2⟩, ⟨blk_below Bbq.out hb2⟩, by rw [up_ne (show (10 : Nat) ≠ 9 by decide), hb10]; exact IsMap.below HMq hb2⟩ (fun k u hk => by revert hk; match k with | 0 => exact id | 1 => exact id | 2 => exact id | 3 => exact id | 4 => exact id | 5 => exact id | 6 => exact id | 7 => exact id | 8 => exact id | 9 => exact id | k + 10 => exact id) rfl⟩
            | 10, _ =>
              intro b a wq hI hbi_ hb_ hoff_
              have e51 := hI.new 51 0 (by decide) (hb_ 0 (by decide)) rfl fun _ h => h
              have s51 := sv_ e51
              have e53 := hI.new 53 2 (by decide) (hb_ 2 (by decide)) rfl fun _ h => h
              have s53 := sv_ e53
              have e60 := hI.new 60 9 (by decide) (hb_ 9 (by decide)) rfl fun _ h => h
              have s60 := sv_ e60
              have hJ := hI.j
              obtain ⟨HBq, Bgq, Bbq, HMq⟩ := hJ
              obtain ⟨cp9_0, cp9_1, cp9_2⟩ := cells3 Bbq.out; 
              refine ⟨_, rfl, rfl, fun K hK => ?_⟩
              have hb10 : b 10 = false := hbi_
              rw [hb10] at HMq
              simp only [Bool.false_eq_true, if_false] at HMq
              obtain ⟨w2, hrun2, hm2, ho2⟩ := run_mapUpdate (P := Try.prog) (T := 159) (K := 3) (E := 32) HMq Try.underlying159 Try.underlying3 (rd_T112 l2 i).f0 (addR ((mget (M2) (rd_T112 l2 i).f0).getD ⟨0, 0⟩) (rd_T112 l2 i).f1)
              have hlt : m < wq.heap.size := HMq.lt
              refine skip_ rfl rfl (w1 := w2) (by unfold execOp; simp [e51, e53, e60, hrun2]) (hK undef _ ⟨⟨Only.below ho2 HBq.out Gm.out⟩, ⟨Only.blk ho2 Bgq.out Ngm.out⟩, ⟨Only.blk ho2 Bbq.out (fun e_ => by have h1_ := Bbq.out; rw [e_] at h1_; have h2_ : wq.heap[m]? = _ := HMq; rw [h2_] at h1_; cases h1_)⟩, by rw [up_self]; simp only [if_true]; exact hm2⟩ (fun k u hk => by revert hk; match k with | 0 => exact id | 1 => exact id | 2 => exact id | 3 => exact id | 4 => exact id | 5 => exact id | 6 => exact id | 7 => exact id | 8 => exact id | 9 => exact id | k + 10 => exact id) trivial)
            | o_ + 11, hi => exact absurd hi (by omega)
          intro vs w6 b hall hJ hT
          obtain ⟨Hall, HJ0, HT0⟩ : Aside0 (∀ j, j < 11 → b j = true) ∧ Aside0 _ ∧ Aside0 _ := ⟨⟨hall⟩, ⟨hJ⟩, ⟨hT⟩⟩
          clear hall hJ hT
          have t0_ := HT0.out 0 (by decide) (by decide)
          have t1_ := HT0.out 1 (by decide) (by decide)
          have t2_ := HT0.out 2 (by decide) (by decide)
          have t3_ := HT0.out 3 (by decide) (by decide)
          have t4_ := HT0.out 4 (by decide) (by decide)
          have t5_ := HT0.out 5 (by decide) (by decide)
          have t6_ := HT0.out 6 (by decide) (by decide)
          have t7_ := HT0.out 7 (by decide) (by decide)
          have t8_ := HT0.out 8 (by decide) (by decide)
          have t9_ := HT0.out 9 (by decide) (by decide)
          skip
          simp only [fillAll, show List.range 11 = [0, 1, 2, 3, 4, 5, 6, 7, 8, 9, 10] from rfl]
          rw [(show vs 0 = _ from t0_), (show vs 1 = _ from t1_), (show vs 2 = _ from t2_), (show vs 3 = _ from t3_), (show vs 4 = _ from t4_), (show vs 5 = _ from t5_), (show vs 6 = _ from t6_), (show vs 7 = _ from t7_), (show vs 8 = _ from t8_), (show vs 9 = _ from t9_)]
          clear t0_ t1_ t2_ t3_ t4_ t5_ t6_ t7_ t8_ t9_
          simp only [Act.put, List.setIfInBounds_toArray, List.set_cons_zero, List.set_cons_succ]
          obtain ⟨HBn, ng, np9, Mn⟩ := HJ0.out
          clear HB Bm Bg Bp9
          have HB := HBn
          clear HBn
          have Bg := ng
          clear ng
          (try clear cg_0 cg_1 cg_2 cg_3 cg_4); obtain ⟨cg_0, cg_1, cg_2, cg_3, cg_4⟩ := cells5 Bg.out; 
          have Bp9 := np9
          clear np9
          (try clear cp9_0 cp9_1 cp9_2); obtain ⟨cp9_0, cp9_1, cp9_2⟩ := cells3 Bp9.out; 
          rw [Hall.out 10 (by decide), if_pos rfl] at Mn
          have Bm := Aside0.mk Mn
          clear Mn HJ0 HT0 Hall
          go_wp2
          go_roundg (l2.length - (i + 1).toNat)
          case measure => have := Hn.out; omega
          case rel => exact ⟨i + 1, _, by omega, rfl, by omega, rfl, ⟨by rw [HE.out, HD.out, pumpsL]⟩, Bm, Bg, HB⟩
        · have HE1 : Aside0 (leavingL l1 l2 sh = M2) := ⟨by rw [HE0.out, HE.out, List.drop_eq_nil_of_le (by omega)]; rfl⟩
          go_wp2
          go_ret
          exact ⟨m, rfl, Gm.out, ⟨by rw [HE1.out]; exact Bm.out⟩, (bel_r HB)⟩
end Go.Proofs.Ytkhnhkjihhhbbaa.P

namespace Go.Proofs.Ytkhnhkjihhhbbaa.P
open Go.RowKit Go.Proofs.YtkhnhkjihhhbbaaW.PrintWords Go.Proofs.YtkhnhkjihhhbbaaW.PrintLast Go.Proofs.YtkhnhkjihhhbbaaW.PrintMore
set_option linter.unusedVariables false
set_option linter.unusedSimpArgs false
open Go.ChangeMaps (setBlock)
variable {β : Type}
/-- Block r is an iterator over the map in block m, which held n entries when it was made; the entries with these numbers have been handed out. -/
def IsIter (w : World) (r m n : Nat) (seen : Array Nat) : Prop := ∃ c0, w.heap[r]? = some (.mapIter (some m) n seen c0) ∧ n ≤ c0
/-- How many entries are still to come. -/
def leftN (n : Nat) (seen : Array Nat) : Nat := ((List.range n).filter fun j => !seen.contains j).length
theorem leftN_push {n : Nat} {seen : Array Nat} {j : Nat} (hj : j < n) (hs : seen.contains j = false) : leftN n (seen.push j) < leftN n seen := by
  unfold leftN
  have hsub : ((List.range n).filter fun i => !(seen.push j).contains i) = ((List.range n).filter fun i => !seen.contains i).filter fun i => !(i == j) := by
    rw [List.filter_filter]
    refine List.filter_congr fun i _ => ?_
    rw [show (!(i == j)) = !decide (i = j) from by by_cases h : i = j <;> simp [h]]
    simp [Array.contains_push, Bool.or_comm]
  rw [hsub]
  have hmem : j ∈ (List.range n).filter fun i => !seen.contains i := List.mem_filter.2 ⟨List.mem_range.2 hj, by rw [hs]; rfl⟩
  generalize (List.range n).filter (fun i => !seen.contains i) = l at hmem ⊢
  refine List.length_filter_lt_length_iff_exists.2 ⟨j, hmem, by simp⟩
theorem leftN_zero {n : Nat} {seen : Array Nat} (h : leftN n seen = 0) {j : Nat} (hj : j < n) : seen.contains j = true := by
  unfold leftN at h
  have := List.eq_nil_of_length_eq_zero h
  rw [List.filter_eq_nil_iff] at this
  simpa using this j (List.mem_range.2 hj)
section
variable {P : Program} {w : World} {b r : Nat} {kk : IntKind} {enc : β → Value} {L : List (Int × β)} {seen : Array Nat}
theorem IsIter.lt {w : World} {r m n : Nat} {seen : Array Nat} (h : IsIter w r m n seen) : r < w.heap.size := by obtain ⟨_, h, _⟩ := h; exact (Array.getElem?_eq_some_iff.1 h).1
theorem it_b {W W' w2 : World} {r m n : Nat} {seen : Array Nat} (hb : Below W'.heap.size W' w2) (h : Aside0 (IsIter W r m n seen)) (h4 : W'.heap = W.heap := by exact rfl) : Aside0 (IsIter w2 r m n seen) := by
  obtain ⟨⟨c, h1, h2⟩⟩ := h
  exact ⟨⟨c, blk_below (by rw [h4]; exact h1) hb, h2⟩⟩
theorem it_o {W W' w2 : World} {r m n g : Nat} {seen : Array Nat} (ho : Only g W' w2) (h : Aside0 (IsIter W r m n seen)) (hne : r ≠ g) (h4 : W'.heap = W.heap := by exact rfl) : Aside0 (IsIter w2 r m n seen) := by
  obtain ⟨⟨c, h1, h2⟩⟩ := h
  exact ⟨⟨c, ho.blk (by rw [h4]; exact h1) hne, h2⟩⟩
theorem it_new {W W' : World} {r m n g : Nat} {seen : Array Nat} (h : Aside0 (IsIter W r m n seen)) (hg : g = W'.heap.size) (h4 : W'.heap = W.heap := by exact rfl) : Aside0 (r ≠ g) := ⟨by rw [hg, h4]; exact Nat.ne_of_lt h.out.lt⟩
theorem entries_mem {e : MapEntry} (h : e ∈ (entriesOf kk enc L).toList) : ∃ j x, L[j]? = some x ∧ e = mentry kk enc (x, j) := by
  unfold entriesOf at h
  simp only [List.mem_map] at h
  obtain ⟨p, hp, rfl⟩ := h
  have := List.mem_zipIdx_iff_getElem?.1 hp
  exact ⟨p.2, p.1, this, rfl⟩
theorem entries_born : ((entriesOf kk enc L).toList.map (·.born)).Nodup := by
  unfold entriesOf
  have : (L.zipIdx.map (mentry kk enc)).map (·.born) = List.range L.length := by
    rw [List.map_map]
    have h1 : ((fun e : MapEntry => e.born) ∘ mentry kk enc) = (Prod.snd : (Int × β) × Nat → Nat) := rfl
    rw [h1, List.zipIdx_map_snd, List.range_eq_range']
  simp only [this]
  exact List.nodup_range
theorem run_range (h : IsMap kk enc w b L) {T K E : TypeId} (hT : P.underlying T = some (.map K E)) :
    (Instr.range T (.map (some b))).run P w = .ok (.pointer (some ⟨w.heap.size, 0, none⟩)) (w.alloc (.mapIter (some b) L.length #[] L.length)) := by
  have hg := Go.MapKept.run_getObj_map (P := P) (show w.heap[b]? = some (.map (entriesOf kk enc L) L.length) from h)
  unfold Instr.range
  simp only [Sem.run_bind, run_underlying hT, hg, Result.andThen, Sem.run_pure]
  rfl
theorem only_setBlock {W : World} (hW : W = w ∨ W = w.drew) (o : Obj) : Only r w (setBlock W r o) := by
  have h : ∀ V : World, V.heap = w.heap → V.os = w.os → V.tape = w.tape → V.output = w.output → Only r w (setBlock V r o) := fun V h1 h2 h3 h4 => ⟨h2, h3, h4, by simp [setBlock, h1], fun k hk => by
    simp only [setBlock, h1]
    exact Array.getElem?_setIfInBounds_ne (Ne.symm hk)⟩
  rcases hW with rfl | rfl
  · exact h _ rfl rfl rfl rfl
  · exact h _ rfl rfl rfl rfl
theorem run_next (h : IsMap kk enc w b L) (hi : IsIter w r b L.length seen) (ty : TypeId) :
    (leftN L.length seen = 0 ∧ (Instr.next (.pointer (some ⟨r, 0, none⟩)) false ty).run P w = .ok (.tuple #[.bool false]) w) ∨
    ∃ j x w1, L[j]? = some x ∧ seen.contains j = false ∧ (Instr.next (.pointer (some ⟨r, 0, none⟩)) false ty).run P w = .ok (.tuple #[.bool true, .int kk x.1, enc x.2]) w1 ∧ Only r w w1 ∧ IsIter w1 r b L.length (seen.push j) ∧
      (Instr.entry (.pointer (some ⟨r, 0, none⟩))).run P w1 = .ok (.tuple #[.int kk x.1, enc x.2]) w1 := by
  obtain ⟨c0, hr, hc⟩ := hi
  have hb : w.heap[b]? = some (.map (entriesOf kk enc L) L.length) := h
  have hrb : b ≠ r := fun e => by rw [e, hr] at hb; cases hb
  have hold : ∀ x ∈ (entriesOf kk enc L).toList, x.born < L.length := fun e he => by
    obtain ⟨j, x, hj, rfl⟩ := entries_mem he
    exact (List.getElem?_eq_some_iff.1 hj).1
  have hmemL : ∀ e, e ∈ (leftOf (entriesOf kk enc L) seen).toList ↔ e ∈ (entriesOf kk enc L).toList ∧ seen.contains e.born = false := fun e => by
    simp [leftOf]
  rcases run_next_at (P := P) w ty r b L.length c0 seen (entriesOf kk enc L) L.length hr hb hold hc with ⟨h1, h2⟩ | ⟨e, he, w1, hw1, hrun⟩
  · refine .inl ⟨?_, h2⟩
    unfold leftN
    rw [List.length_eq_zero_iff, List.filter_eq_nil_iff]
    intro j hj
    have hjl := List.mem_range.1 hj
    cases hs : seen.contains j with
    | true => simp
    | false =>
      exfalso
      have hin : mentry kk enc (L[j], j) ∈ (leftOf (entriesOf kk enc L) seen).toList := (hmemL _).2 ⟨by
        unfold entriesOf
        simp only [List.mem_map]
        exact ⟨(L[j], j), List.mem_zipIdx_iff_getElem?.2 (List.getElem?_eq_getElem hjl), rfl⟩, hs⟩
      have : (leftOf (entriesOf kk enc L) seen).toList = [] := List.eq_nil_of_length_eq_zero (by rw [Array.length_toList]; exact h1)
      rw [this] at hin
      cases hin
  · obtain ⟨hm, hs⟩ := (hmemL e).1 he
    obtain ⟨j, x, hj, rfl⟩ := entries_mem hm
    refine .inr ⟨j, x, _, hj, hs, hrun, only_setBlock hw1 _, ?_, ?_⟩
    · refine ⟨L.length, ?_, Nat.le_refl _⟩
      have hlt : r < w1.heap.size := by rcases hw1 with rfl | rfl <;> exact (Array.getElem?_eq_some_iff.1 hr).1
      simp [setBlock, hlt, mentry]
    · have hlt : r < w1.heap.size := by rcases hw1 with rfl | rfl <;> exact (Array.getElem?_eq_some_iff.1 hr).1
      refine run_entry_at _ r b L.length seen (entriesOf kk enc L) L.length (mentry kk enc (x, j)) (by simp [setBlock, hlt]) ?_ hm entries_born
      have : w1.heap[b]? = some (.map (entriesOf kk enc L) L.length) := by rcases hw1 with rfl | rfl <;> exact hb
      simp only [setBlock]
      rw [Array.getElem?_setIfInBounds_ne (Ne.symm hrb)]
      exact this
end
section
variable {P : Program} {ops : Array Oper} {rest : List Oper} {o : Oper} {a : Act} {Q : Exit → Act → World → Prop} {b r : Nat} {kk : IntKind} {enc : β → Value} {L : List (Int × β)} {seen : Array Nat} {K E : TypeId}
theorem range_event {W : World} (hgd : o.guard = none) (T : TypeId) (x : Operand) (hop : o.op = .range T x) (hx : a.eval x = .map (some b)) (hI : IsMap kk enc W b L) (hT : P.underlying T = some (.map K E))
    (h : ∀ r, r = W.heap.size → ∀ w1, IsIter w1 r b L.length #[] → Below W.heap.size W w1 → wpList P ops Q rest (a.put o.dst (.pointer (some ⟨r, 0, none⟩))) w1) : wpList P ops Q (o :: rest) a W := by
  refine Kd.event_run hgd (v := .pointer (some ⟨W.heap.size, 0, none⟩)) (w1 := W.alloc (.mapIter (some b) L.length #[] L.length)) ?_ (h _ rfl _ ⟨L.length, heap_alloc_new W _, Nat.le_refl _⟩ (below_alloc (Below.refl _ _) _))
  unfold execOp
  simp [hop, hx, run_range hI hT]
theorem next_event {W : World} (hgd : o.guard = none) (ty : TypeId) (x : Operand) (hop : o.op = .next x false) (hty : o.type = ty) (hx : a.eval x = .pointer (some ⟨r, 0, none⟩)) (hI : IsMap kk enc W b L) (hi : IsIter W r b L.length seen)
    (h0 : leftN L.length seen = 0 → wpList P ops Q rest (a.put o.dst (.tuple #[.bool false])) W)
    (h1 : ∀ j x w1, L[j]? = some x → seen.contains j = false → Only r W w1 → IsIter w1 r b L.length (seen.push j) → (Instr.entry (.pointer (some ⟨r, 0, none⟩))).run P w1 = .ok (.tuple #[.int kk x.1, enc x.2]) w1 →
      wpList P ops Q rest (a.put o.dst (.tuple #[.bool true, .int kk x.1, enc x.2])) w1) : wpList P ops Q (o :: rest) a W := by
  subst hty
  rcases run_next (P := P) hI hi o.type with ⟨hl, hrun⟩ | ⟨j, x, w1, hj, hs, hrun, ho, hit, hen⟩
  · refine Kd.event_run hgd (v := .tuple #[.bool false]) (w1 := W) ?_ (h0 hl)
    unfold execOp
    simp [hop, hx, hrun]
  · refine Kd.event_run hgd (v := .tuple #[.bool true, .int kk x.1, enc x.2]) (w1 := w1) ?_ (h1 j x w1 hj hs ho hit hen)
    unfold execOp
    simp [hop, hx, hrun]
end
end Go.Proofs.Ytkhnhkjihhhbbaa.P

namespace Go.Proofs.Ytkhnhkjihhhbbaa.P
open Go.RowKit Go.Proofs.YtkhnhkjihhhbbaaW.PrintWords Go.Proofs.YtkhnhkjihhhbbaaW.PrintLast Go.Proofs.YtkhnhkjihhhbbaaW.PrintMore
set_option linter.unusedVariables false
set_option linter.unusedSimpArgs false
/-- A function value over two variables that hold u and v. -/
def HoldsFn (f t1 t2 : Nat) (u v : Value) (B : Nat) (x : Value) (w : World) : Prop :=
  ∃ b1 b2, x = .func (.func f) #[] #[.pointer (some ⟨b1, 0, none⟩), .pointer (some ⟨b2, 0, none⟩)] ∧ B ≤ b1 ∧ B ≤ b2 ∧ w.heap[b1]? = some (.cells #[u] t1 (0, 0)) ∧ w.heap[b2]? = some (.cells #[v] t2 (0, 0))
theorem HoldsFn.below {f t1 t2 : Nat} {u v : Value} {B : Nat} {x : Value} {w w' : World} (h : HoldsFn f t1 t2 u v B x w) (hb : Below w.heap.size w w') : HoldsFn f t1 t2 u v B x w' := by
  obtain ⟨b1, b2, h0, h1, h2, h3, h4⟩ := h
  exact ⟨b1, b2, h0, h1, h2, blk_below h3 hb, blk_below h4 hb⟩
def HoldsFive (P1 P2 P3 P4 P5 : Value → World → Prop) (v : Value) (w : World) : Prop :=
  ∃ bs x1 x2 x3 x4 x5, v = .slice (some ⟨bs, 0, none⟩) 5 5 ∧ w.heap[bs]? = some (.cells #[x1, x2, x3, x4, x5] 152 (0, 0)) ∧ P1 x1 w ∧ P2 x2 w ∧ P3 x3 w ∧ P4 x4 w ∧ P5 x5 w
theorem HoldsFive.below {f1 s1 t1 f2 s2 t2 f3 s3 t3 f4 s4 t4 f5 s5 t5 : Nat} {u1 v1 u2 v2 u3 v3 u4 v4 u5 v5 : Value} {B : Nat} {v : Value} {w w' : World}
    (h : HoldsFive (HoldsFn f1 s1 t1 u1 v1 B) (HoldsFn f2 s2 t2 u2 v2 B) (HoldsFn f3 s3 t3 u3 v3 B) (HoldsFn f4 s4 t4 u4 v4 B) (HoldsFn f5 s5 t5 u5 v5 B) v w) (hb : Below w.heap.size w w') :
    HoldsFive (HoldsFn f1 s1 t1 u1 v1 B) (HoldsFn f2 s2 t2 u2 v2 B) (HoldsFn f3 s3 t3 u3 v3 B) (HoldsFn f4 s4 t4 u4 v4 B) (HoldsFn f5 s5 t5 u5 v5 B) v w' := by
  obtain ⟨bs, x1, x2, x3, x4, x5, h0, h1, h2, h3, h4, h5, h6⟩ := h
  exact ⟨bs, x1, x2, x3, x4, x5, h0, blk_below h1 hb, h2.below hb, h3.below hb, h4.below hb, h5.below hb, h6.below hb⟩
attribute [local go_sem] max2_int min2_int max_two min_two
def checkV (l0 : List S36) (l1 : List S138) (l2 : List S112) (l3 : List S140) (l4 : List S142) : Int :=
  if l0.length = 0 then 6
  else if 8 < l0.length then 8 else if 16 < l1.length then 8 else if 8 < max (max l2.length l3.length) l4.length then 8
  else if firstE [everyE vesselE l0, everyE (pipeE l0.length) l1, everyE (pumpE l0.length) l2, everyE (leakE l0.length) l3, everyE (getterE l0.length) l4] ≠ 0 then
    firstE [everyE vesselE l0, everyE (pipeE l0.length) l1, everyE (pumpE l0.length) l2, everyE (leakE l0.length) l3, everyE (getterE l0.length) l4]
  else if (leavingL l1 l2 []).any (fun x => decide (1000000 < x.2.f1)) = true then 14 else 0
set_option maxHeartbeats 8000000 in
set_option maxRecDepth 100000 in
theorem check_any (l0 : List S36) (l1 : List S138) (l2 : List S112) (l3 : List S140) (l4 : List S142) (A0 A1 A2 A3 A4 : Option Addr) (c0 c1 c2 c3 c4 : Nat) (w : World)
    (hr0 : Kd.C k36 w A0 l0.length l0) (hr1 : Kd.C k138 w A1 l1.length l1) (hr2 : Kd.C k112 w A2 l2.length l2) (hr3 : Kd.C k140 w A3 l3.length l3) (hr4 : Kd.C k142 w A4 l4.length l4)
    (hc0 : l0.length ≤ c0) (hc1 : l1.length ≤ c1) (hc2 : l2.length ≤ c2) (hc3 : l3.length ≤ c3) (hc4 : l4.length ≤ c4) :
    Calls Try.prog 37 #[.agg #[.slice A0 l0.length c0, .slice A1 l1.length c1, .slice A2 l2.length c2, .slice A3 l3.length c3, .slice A4 l4.length c4]] w fun e w' => e = .returned (.int .i64 (checkV l0 l1 l2 l3 l4)) ∧ Below w.heap.size w w' := by
  have HR0 := Aside0.mk hr0
  have HR1 := Aside0.mk hr1
  have HR2 := Aside0.mk hr2
  have HR3 := Aside0.mk hr3
  have HR4 := Aside0.mk hr4
  have HC0 := Aside0.mk hc0
  have HC1 := Aside0.mk hc1
  have HC2 := Aside0.mk hc2
  have HC3 := Aside0.mk hc3
  have HC4 := Aside0.mk hc4
  clear hr0 hr1 hr2 hr3 hr4 hc0 hc1 hc2 hc3 hc4
  have HB := Aside0.mk (Below.refl w.heap.size w)
  have hmf : ∀ (fn : Fn) (first cap : Array Value) (w : World), (Instr.makeFunc fn first cap).run Try.prog w = .ok (.func fn first cap) w := fun _ _ _ _ => rfl
  by_cases hz : l0.length = 0
  · have HE : Aside0 (checkV l0 l1 l2 l3 l4 = 6) := ⟨by unfold checkV; rw [if_pos hz]⟩
    have hz1 : ((l0.length : Int) == 0) = true := by simp; exact List.length_eq_zero_iff.1 hz
    clear hz
    go_enter Try.func37, Try.ntmps37
    go_wp2_with (first | ((with_reducible refine gate_dst (N := 1) rfl ?_); go_must (refine box_ev (N := 1) (cs := #[.slice A0 l0.length c0, .slice A1 l1.length c1, .slice A2 l2.length c2, .slice A3 l3.length c3, .slice A4 l4.length c4]) (t := 29) (h := ?_); intro g hgg w1 hbox hb; have GEg := ge_new HB hgg; replace HB := bel_b hb HB; have Bg := Aside0.mk hbox; clear hbox; obtain ⟨cg_0, cg_1, cg_2, cg_3, cg_4⟩ := cells5 Bg.out; (try clear hb); clear hgg)) | ((with_reducible refine gate_dst (N := 3) rfl ?_); go_must (refine box_ev (N := 3) (cs := #[.int .i64 0]) (t := 3) (h := ?_); intro n3 hgn3 w2 hbox hb; have GEn3 := ge_new HB hgn3; have N_g_n3 := ne_new Bg hgn3; replace HB := bel_b hb HB; replace Bg := blk_b hb Bg; (try clear cg_0 cg_1 cg_2 cg_3 cg_4); obtain ⟨cg_0, cg_1, cg_2, cg_3, cg_4⟩ := cells5 Bg.out; have Bn3 := Aside0.mk hbox; clear hbox; have cn3_0 := cells1 Bn3.out; (try clear hb); clear hgn3)) | ((with_reducible refine gate_store (t := 3) (p := 3) rfl ?_); go_must (refine cell_ev n3 0 (.int .i64 (l0.length : Int)) (cells := #[.int .i64 (l0.length : Int)]) Bn3.out (h := ?_); intro w3 hbox ho_; replace HB := bel_o ho_ HB GEn3; replace Bg := blk_o ho_ Bg (by first | exact N_g_n3.out | exact N_n3_g.out.symm); (try clear cg_0 cg_1 cg_2 cg_3 cg_4); obtain ⟨cg_0, cg_1, cg_2, cg_3, cg_4⟩ := cells5 Bg.out; replace Bn3 := Aside0.mk hbox; clear hbox ho_; (try clear cn3_0); have cn3_0 := cells1 Bn3.out; )) | ((with_reducible refine gate_dst (N := 4) rfl ?_); go_must (refine box_ev (N := 4) (cs := #[.nilFunc]) (t := 146) (h := ?_); intro a4 hga4 w4 hbox hb; have GEa4 := ge_new HB hga4; have N_g_a4 := ne_new Bg hga4; have N_n3_a4 := ne_new Bn3 hga4; replace HB := bel_b hb HB; replace Bg := blk_b hb Bg; (try clear cg_0 cg_1 cg_2 cg_3 cg_4); obtain ⟨cg_0, cg_1, cg_2, cg_3, cg_4⟩ := cells5 Bg.out; replace Bn3 := blk_b hb Bn3; (try clear cn3_0); have cn3_0 := cells1 Bn3.out; have Ba4 := Aside0.mk hbox; clear hbox; have ca4_0 := cells1 Ba4.out; (try clear hb); clear hga4)) | ((with_reducible refine gate_store (t := 146) (p := 4) rfl ?_); go_must (refine cell_ev a4 0 (.func (.func 85) #[] #[.pointer (some ⟨n3, 0, none⟩)]) (cells := #[.func (.func 85) #[] #[.pointer (some ⟨n3, 0, none⟩)]]) Ba4.out (h := ?_); intro w5 hbox ho_; replace HB := bel_o ho_ HB GEa4; replace Bg := blk_o ho_ Bg (by first | exact N_g_a4.out | exact N_a4_g.out.symm); (try clear cg_0 cg_1 cg_2 cg_3 cg_4); obtain ⟨cg_0, cg_1, cg_2, cg_3, cg_4⟩ := cells5 Bg.out; replace Bn3 := blk_o ho_ Bn3 (by first | exact N_n3_a4.out | exact N_a4_n3.out.symm); (try clear cn3_0); have cn3_0 := cells1 Bn3.out; replace Ba4 := Aside0.mk hbox; clear hbox ho_; (try clear ca4_0); have ca4_0 := cells1 Ba4.out; )) | ((with_reducible refine gate_dst (N := 36) rfl ?_); go_must (refine gate_guard (by simp [Region.wanted, yielded]; omega) ?_; refine max3_event rfl (.tmp 29) (.tmp 32) (.tmp 35) _ rfl l2.length l3.length l4.length rfl rfl rfl ?_)))
    go_ret
    exact ⟨by rw [HE.out]; rfl, (bel_r HB)⟩
  have HZ := Aside0.mk hz
  have hz1 : ((l0.length : Int) == 0) = false := by simp; exact fun e => hz (by rw [e]; rfl)
  clear hz
  by_cases h8 : 8 < l0.length
  · have HE : Aside0 (checkV l0 l1 l2 l3 l4 = 8) := ⟨by unfold checkV; rw [if_neg HZ.out, if_pos h8]⟩
    have h81 : (8 : Int) < (l0.length : Int) := by omega
    clear h8
    go_enter Try.func37, Try.ntmps37
    go_wp2_with (first | ((with_reducible refine gate_dst (N := 1) rfl ?_); go_must (refine box_ev (N := 1) (cs := #[.slice A0 l0.length c0, .slice A1 l1.length c1, .slice A2 l2.length c2, .slice A3 l3.length c3, .slice A4 l4.length c4]) (t := 29) (h := ?_); intro g hgg w1 hbox hb; have GEg := ge_new HB hgg; replace HB := bel_b hb HB; have Bg := Aside0.mk hbox; clear hbox; obtain ⟨cg_0, cg_1, cg_2, cg_3, cg_4⟩ := cells5 Bg.out; (try clear hb); clear hgg)) | ((with_reducible refine gate_dst (N := 3) rfl ?_); go_must (refine box_ev (N := 3) (cs := #[.int .i64 0]) (t := 3) (h := ?_); intro n3 hgn3 w2 hbox hb; have GEn3 := ge_new HB hgn3; have N_g_n3 := ne_new Bg hgn3; replace HB := bel_b hb HB; replace Bg := blk_b hb Bg; (try clear cg_0 cg_1 cg_2 cg_3 cg_4); obtain ⟨cg_0, cg_1, cg_2, cg_3, cg_4⟩ := cells5 Bg.out; have Bn3 := Aside0.mk hbox; clear hbox; have cn3_0 := cells1 Bn3.out; (try clear hb); clear hgn3)) | ((with_reducible refine gate_store (t := 3) (p := 3) rfl ?_); go_must (refine cell_ev n3 0 (.int .i64 (l0.length : Int)) (cells := #[.int .i64 (l0.length : Int)]) Bn3.out (h := ?_); intro w3 hbox ho_; replace HB := bel_o ho_ HB GEn3; replace Bg := blk_o ho_ Bg (by first | exact N_g_n3.out | exact N_n3_g.out.symm); (try clear cg_0 cg_1 cg_2 cg_3 cg_4); obtain ⟨cg_0, cg_1, cg_2, cg_3, cg_4⟩ := cells5 Bg.out; replace Bn3 := Aside0.mk hbox; clear hbox ho_; (try clear cn3_0); have cn3_0 := cells1 Bn3.out; )) | ((with_reducible refine gate_dst (N := 4) rfl ?_); go_must (refine box_ev (N := 4) (cs := #[.nilFunc]) (t := 146) (h := ?_); intro a4 hga4 w4 hbox hb; have GEa4 := ge_new HB hga4; have N_g_a4 := ne_new Bg hga4; have N_n3_a4 := ne_new Bn3 hga4; replace HB := bel_b hb HB; replace Bg := blk_b hb Bg; (try clear cg_0 cg_1 cg_2 cg_3 cg_4); obtain ⟨cg_0, cg_1, cg_2, cg_3, cg_4⟩ := cells5 Bg.out; replace Bn3 := blk_b hb Bn3; (try clear cn3_0); have cn3_0 := cells1 Bn3.out; have Ba4 := Aside0.mk hbox; clear hbox; have ca4_0 := cells1 Ba4.out; (try clear hb); clear hga4)) | ((with_reducible refine gate_store (t := 146) (p := 4) rfl ?_); go_must (refine cell_ev a4 0 (.func (.func 85) #[] #[.pointer (some ⟨n3, 0, none⟩)]) (cells := #[.func (.func 85) #[] #[.pointer (some ⟨n3, 0, none⟩)]]) Ba4.out (h := ?_); intro w5 hbox ho_; replace HB := bel_o ho_ HB GEa4; replace Bg := blk_o ho_ Bg (by first | exact N_g_a4.out | exact N_a4_g.out.symm); (try clear cg_0 cg_1 cg_2 cg_3 cg_4); obtain ⟨cg_0, cg_1, cg_2, cg_3, cg_4⟩ := cells5 Bg.out; replace Bn3 := blk_o ho_ Bn3 (by first | exact N_n3_a4.out | exact N_a4_n3.out.symm); (try clear cn3_0); have cn3_0 := cells1 Bn3.out; replace Ba4 := Aside0.mk hbox; clear hbox ho_; (try clear ca4_0); have ca4_0 := cells1 Ba4.out; )) | ((with_reducible refine gate_dst (N := 36) rfl ?_); go_must (refine gate_guard (by simp [Region.wanted, yielded]; omega) ?_; refine max3_event rfl (.tmp 29) (.tmp 32) (.tmp 35) _ rfl l2.length l3.length l4.length rfl rfl rfl ?_)))
    go_ret
    exact ⟨by rw [HE.out]; rfl, (bel_r HB)⟩
  have H8 := Aside0.mk h8
  have h81 : (l0.length : Int) ≤ 8 := by omega
  clear h8
  by_cases h16 : 16 < l1.length
  · have HE : Aside0 (checkV l0 l1 l2 l3 l4 = 8) := ⟨by unfold checkV; rw [if_neg HZ.out, if_neg H8.out, if_pos h16]⟩
    have h161 : (16 : Int) < (l1.length : Int) := by omega
    clear h16
    go_enter Try.func37, Try.ntmps37
    go_wp2_with (first | ((with_reducible refine gate_dst (N := 1) rfl ?_); go_must (refine box_ev (N := 1) (cs := #[.slice A0 l0.length c0, .slice A1 l1.length c1, .slice A2 l2.length c2, .slice A3 l3.length c3, .slice A4 l4.length c4]) (t := 29) (h := ?_); intro g hgg w1 hbox hb; have GEg := ge_new HB hgg; replace HB := bel_b hb HB; have Bg := Aside0.mk hbox; clear hbox; obtain ⟨cg_0, cg_1, cg_2, cg_3, cg_4⟩ := cells5 Bg.out; (try clear hb); clear hgg)) | ((with_reducible refine gate_dst (N := 3) rfl ?_); go_must (refine box_ev (N := 3) (cs := #[.int .i64 0]) (t := 3) (h := ?_); intro n3 hgn3 w2 hbox hb; have GEn3 := ge_new HB hgn3; have N_g_n3 := ne_new Bg hgn3; replace HB := bel_b hb HB; replace Bg := blk_b hb Bg; (try clear cg_0 cg_1 cg_2 cg_3 cg_4); obtain ⟨cg_0, cg_1, cg_2, cg_3, cg_4⟩ := cells5 Bg.out; have Bn3 := Aside0.mk hbox; clear hbox; have cn3_0 := cells1 Bn3.out; (try clear hb); clear hgn3)) | ((with_reducible refine gate_store (t := 3) (p := 3) rfl ?_); go_must (refine cell_ev n3 0 (.int .i64 (l0.length : Int)) (cells := #[.int .i64 (l0.length : Int)]) Bn3.out (h := ?_); intro w3 hbox ho_; replace HB := bel_o ho_ HB GEn3; replace Bg := blk_o ho_ Bg (by first | exact N_g_n3.out | exact N_n3_g.out.symm); (try clear cg_0 cg_1 cg_2 cg_3 cg_4); obtain ⟨cg_0, cg_1, cg_2, cg_3, cg_4⟩ := cells5 Bg.out; replace Bn3 := Aside0.mk hbox; clear hbox ho_; (try clear cn3_0); have cn3_0 := cells1 Bn3.out; )) | ((with_reducible refine gate_dst (N := 4) rfl ?_); go_must (refine box_ev (N := 4) (cs := #[.nilFunc]) (t := 146) (h := ?_); intro a4 hga4 w4 hbox hb; have GEa4 := ge_new HB hga4; have N_g_a4 := ne_new Bg hga4; have N_n3_a4 := ne_new Bn3 hga4; replace HB := bel_b hb HB; replace Bg := blk_b hb Bg; (try clear cg_0 cg_1 cg_2 cg_3 cg_4); obtain ⟨cg_0, cg_1, cg_2, cg_3, cg_4⟩ := cells5 Bg.out; replace Bn3 := blk_b hb Bn3; (try clear cn3_0); have cn3_0 := cells1 Bn3.out; have Ba4 := Aside0.mk hbox; clear hbox; have ca4_0 := cells1 Ba4.out; (try clear hb); clear hga4)) | ((with_reducible refine gate_store (t := 146) (p := 4) rfl ?_); go_must (refine cell_ev a4 0 (.func (.func 85) #[] #[.pointer (some ⟨n3, 0, none⟩)]) (cells := #[.func (.func 85) #[] #[.pointer (some ⟨n3, 0, none⟩)]]) Ba4.out (h := ?_); intro w5 hbox ho_; replace HB := bel_o ho_ HB GEa4; replace Bg := blk_o ho_ Bg (by first | exact N_g_a4.out | exact N_a4_g.out.symm); (try clear cg_0 cg_1 cg_2 cg_3 cg_4); obtain ⟨cg_0, cg_1, cg_2, cg_3, cg_4⟩ := cells5 Bg.out; replace Bn3 := blk_o ho_ Bn3 (by first | exact N_n3_a4.out | exact N_a4_n3.out.symm); (try clear cn3_0); have cn3_0 := cells1 Bn3.out; replace Ba4 := Aside0.mk hbox; clear hbox ho_; (try clear ca4_0); have ca4_0 := cells1 Ba4.out; )) | ((with_reducible refine gate_dst (N := 36) rfl ?_); go_must (refine gate_guard (by simp [Region.wanted, yielded]; omega) ?_; refine max3_event rfl (.tmp 29) (.tmp 32) (.tmp 35) _ rfl l2.length l3.length l4.length rfl rfl rfl ?_)))
    go_ret
    exact ⟨by rw [HE.out]; rfl, (bel_r HB)⟩
  have H16 := Aside0.mk h16
  have h161 : (l1.length : Int) ≤ 16 := by omega
  clear h16
  by_cases hm : 8 < max (max l2.length l3.length) l4.length
  · have HE : Aside0 (checkV l0 l1 l2 l3 l4 = 8) := ⟨by unfold checkV; rw [if_neg HZ.out, if_neg H8.out, if_neg H16.out, if_pos hm]⟩
    have hm1 : (8 : Int) < mx3 l2.length l3.length l4.length := by unfold mx3 mx; omega
    clear hm
    go_enter Try.func37, Try.ntmps37
    go_wp2_with (first | ((with_reducible refine gate_dst (N := 1) rfl ?_); go_must (refine box_ev (N := 1) (cs := #[.slice A0 l0.length c0, .slice A1 l1.length c1, .slice A2 l2.length c2, .slice A3 l3.length c3, .slice A4 l4.length c4]) (t := 29) (h := ?_); intro g hgg w1 hbox hb; have GEg := ge_new HB hgg; replace HB := bel_b hb HB; have Bg := Aside0.mk hbox; clear hbox; obtain ⟨cg_0, cg_1, cg_2, cg_3, cg_4⟩ := cells5 Bg.out; (try clear hb); clear hgg)) | ((with_reducible refine gate_dst (N := 3) rfl ?_); go_must (refine box_ev (N := 3) (cs := #[.int .i64 0]) (t := 3) (h := ?_); intro n3 hgn3 w2 hbox hb; have GEn3 := ge_new HB hgn3; have N_g_n3 := ne_new Bg hgn3; replace HB := bel_b hb HB; replace Bg := blk_b hb Bg; (try clear cg_0 cg_1 cg_2 cg_3 cg_4); obtain ⟨cg_0, cg_1, cg_2, cg_3, cg_4⟩ := cells5 Bg.out; have Bn3 := Aside0.mk hbox; clear hbox; have cn3_0 := cells1 Bn3.out; (try clear hb); clear hgn3)) | ((with_reducible refine gate_store (t := 3) (p := 3) rfl ?_); go_must (refine cell_ev n3 0 (.int .i64 (l0.length : Int)) (cells := #[.int .i64 (l0.length : Int)]) Bn3.out (h := ?_); intro w3 hbox ho_; replace HB := bel_o ho_ HB GEn3; replace Bg := blk_o ho_ Bg (by first | exact N_g_n3.out | exact N_n3_g.out.symm); (try clear cg_0 cg_1 cg_2 cg_3 cg_4); obtain ⟨cg_0, cg_1, cg_2, cg_3, cg_4⟩ := cells5 Bg.out; replace Bn3 := Aside0.mk hbox; clear hbox ho_; (try clear cn3_0); have cn3_0 := cells1 Bn3.out; )) | ((with_reducible refine gate_dst (N := 4) rfl ?_); go_must (refine box_ev (N := 4) (cs := #[.nilFunc]) (t := 146) (h := ?_); intro a4 hga4 w4 hbox hb; have GEa4 := ge_new HB hga4; have N_g_a4 := ne_new Bg hga4; have N_n3_a4 := ne_new Bn3 hga4; replace HB := bel_b hb HB; replace Bg := blk_b hb Bg; (try clear cg_0 cg_1 cg_2 cg_3 cg_4); obtain ⟨cg_0, cg_1, cg_2, cg_3, cg_4⟩ := cells5 Bg.out; replace Bn3 := blk_b hb Bn3; (try clear cn3_0); have cn3_0 := cells1 Bn3.out; have Ba4 := Aside0.mk hbox; clear hbox; have ca4_0 := cells1 Ba4.out; (try clear hb); clear hga4)) | ((with_reducible refine gate_store (t := 146) (p := 4) rfl ?_); go_must (refine cell_ev a4 0 (.func (.func 85) #[] #[.pointer (some ⟨n3, 0, none⟩)]) (cells := #[.func (.func 85) #[] #[.pointer (some ⟨n3, 0, none⟩)]]) Ba4.out (h := ?_); intro w5 hbox ho_; replace HB := bel_o ho_ HB GEa4; replace Bg := blk_o ho_ Bg (by first | exact N_g_a4.out | exact N_a4_g.out.symm); (try clear cg_0 cg_1 cg_2 cg_3 cg_4); obtain ⟨cg_0, cg_1, cg_2, cg_3, cg_4⟩ := cells5 Bg.out; replace Bn3 := blk_o ho_ Bn3 (by first | exact N_n3_a4.out | exact N_a4_n3.out.symm); (try clear cn3_0); have cn3_0 := cells1 Bn3.out; replace Ba4 := Aside0.mk hbox; clear hbox ho_; (try clear ca4_0); have ca4_0 := cells1 Ba4.out; )) | ((with_reducible refine gate_dst (N := 36) rfl ?_); go_must (refine gate_guard (by simp [Region.wanted, yielded]; omega) ?_; refine max3_event rfl (.tmp 29) (.tmp 32) (.tmp 35) _ rfl l2.length l3.length l4.length rfl rfl rfl ?_)))
    go_ret
    exact ⟨by rw [HE.out]; rfl, (bel_r HB)⟩
  have HM := Aside0.mk hm
  have hm1 : mx3 l2.length l3.length l4.length ≤ (8 : Int) := by unfold mx3 mx; omega
  clear hm
  go_enter Try.func37, Try.ntmps37
  go_wp2_with (first | ((with_reducible refine gate_dst (N := 1) rfl ?_); go_must (refine box_ev (N := 1) (cs := #[.slice A0 l0.length c0, .slice A1 l1.length c1, .slice A2 l2.length c2, .slice A3 l3.length c3, .slice A4 l4.length c4]) (t := 29) (h := ?_); intro g hgg w1 hbox hb; have GEg := ge_new HB hgg; replace HB := bel_b hb HB; have Bg := Aside0.mk hbox; clear hbox; obtain ⟨cg_0, cg_1, cg_2, cg_3, cg_4⟩ := cells5 Bg.out; (try clear hb); clear hgg)) | ((with_reducible refine gate_dst (N := 3) rfl ?_); go_must (refine box_ev (N := 3) (cs := #[.int .i64 0]) (t := 3) (h := ?_); intro n3 hgn3 w2 hbox hb; have GEn3 := ge_new HB hgn3; have N_g_n3 := ne_new Bg hgn3; replace HB := bel_b hb HB; replace Bg := blk_b hb Bg; (try clear cg_0 cg_1 cg_2 cg_3 cg_4); obtain ⟨cg_0, cg_1, cg_2, cg_3, cg_4⟩ := cells5 Bg.out; have Bn3 := Aside0.mk hbox; clear hbox; have cn3_0 := cells1 Bn3.out; (try clear hb); clear hgn3)) | ((with_reducible refine gate_store (t := 3) (p := 3) rfl ?_); go_must (refine cell_ev n3 0 (.int .i64 (l0.length : Int)) (cells := #[.int .i64 (l0.length : Int)]) Bn3.out (h := ?_); intro w3 hbox ho_; replace HB := bel_o ho_ HB GEn3; replace Bg := blk_o ho_ Bg (by first | exact N_g_n3.out | exact N_n3_g.out.symm); (try clear cg_0 cg_1 cg_2 cg_3 cg_4); obtain ⟨cg_0, cg_1, cg_2, cg_3, cg_4⟩ := cells5 Bg.out; replace Bn3 := Aside0.mk hbox; clear hbox ho_; (try clear cn3_0); have cn3_0 := cells1 Bn3.out; )) | ((with_reducible refine gate_dst (N := 4) rfl ?_); go_must (refine box_ev (N := 4) (cs := #[.nilFunc]) (t := 146) (h := ?_); intro a4 hga4 w4 hbox hb; have GEa4 := ge_new HB hga4; have N_g_a4 := ne_new Bg hga4; have N_n3_a4 := ne_new Bn3 hga4; replace HB := bel_b hb HB; replace Bg := blk_b hb Bg; (try clear cg_0 cg_1 cg_2 cg_3 cg_4); obtain ⟨cg_0, cg_1, cg_2, cg_3, cg_4⟩ := cells5 Bg.out; replace Bn3 := blk_b hb Bn3; (try clear cn3_0); have cn3_0 := cells1 Bn3.out; have Ba4 := Aside0.mk hbox; clear hbox; have ca4_0 := cells1 Ba4.out; (try clear hb); clear hga4)) | ((with_reducible refine gate_store (t := 146) (p := 4) rfl ?_); go_must (refine cell_ev a4 0 (.func (.func 85) #[] #[.pointer (some ⟨n3, 0, none⟩)]) (cells := #[.func (.func 85) #[] #[.pointer (some ⟨n3, 0, none⟩)]]) Ba4.out (h := ?_); intro w5 hbox ho_; replace HB := bel_o ho_ HB GEa4; replace Bg := blk_o ho_ Bg (by first | exact N_g_a4.out | exact N_a4_g.out.symm); (try clear cg_0 cg_1 cg_2 cg_3 cg_4); obtain ⟨cg_0, cg_1, cg_2, cg_3, cg_4⟩ := cells5 Bg.out; replace Bn3 := blk_o ho_ Bn3 (by first | exact N_n3_a4.out | exact N_a4_n3.out.symm); (try clear cn3_0); have cn3_0 := cells1 Bn3.out; replace Ba4 := Aside0.mk hbox; clear hbox ho_; (try clear ca4_0); have ca4_0 := cells1 Ba4.out; )) | ((with_reducible refine gate_dst (N := 36) rfl ?_); go_must (refine gate_guard (by simp [Region.wanted, yielded]; omega) ?_; refine max3_event rfl (.tmp 29) (.tmp 32) (.tmp 35) _ rfl l2.length l3.length l4.length rfl rfl rfl ?_)))
  have hM8 := HM.out
  have HM2 : Aside0 (l2.length ≤ 8 ∧ l3.length ≤ 8 ∧ l4.length ≤ 8 ∧ l0.length ≤ 8 ∧ l1.length ≤ 16) := ⟨by omega⟩
  clear hM8
  refine region_ri (n := 22) (B := [0, 1, 3, 0, 8, 0, 63, 0, 128, 0, 1023, 0, 2048, 0, 16383, 0, 32768, 0, 262143, 524287, 1048575, 2097151]) (fun o_ => match o_ with | 0 => some 43 | 1 => some 44 | 2 => some 45 | 3 => some 46 | 4 => some 47 | 5 => some 48 | 6 => some 49 | 7 => some 50 | 8 => some 51 | 9 => some 52 | 10 => some 53 | 11 => some 54 | 12 => some 55 | 13 => some 56 | 14 => some 57 | 15 => some 58 | 16 => some 59 | 17 => some 60 | 18 => some 61 | 19 => some 62 | 20 => some 63 | 21 => some 9 | _ => none) (fun o_ q_ w' => match o_ with | 0 => q_ = .pointer (some ⟨g, 0, none⟩) | 1 => q_ = .slice A0 l0.length c0 | 2 => HoldsFn 122 23 154 (.slice A0 l0.length c0) (.func (.func 94) #[] #[]) w.heap.size q_ w' | 3 => q_ = .pointer (some ⟨g, 1, none⟩) | 4 => q_ = .slice A1 l1.length c1 | 5 => q_ = .func (.func 88) #[] #[.pointer (some ⟨n3, 0, none⟩)] | 6 => HoldsFn 123 24 147 (.slice A1 l1.length c1) (.func (.func 88) #[] #[.pointer (some ⟨n3, 0, none⟩)]) w.heap.size q_ w' | 7 => q_ = .pointer (some ⟨g, 2, none⟩) | 8 => q_ = .slice A2 l2.length c2 | 9 => q_ = .func (.func 89) #[] #[.pointer (some ⟨a4, 0, none⟩)] | 10 => HoldsFn 124 25 148 (.slice A2 l2.length c2) (.func (.func 89) #[] #[.pointer (some ⟨a4, 0, none⟩)]) w.heap.size q_ w' | 11 => q_ = .pointer (some ⟨g, 3, none⟩) | 12 => q_ = .slice A3 l3.length c3 | 13 => q_ = .func (.func 90) #[] #[.pointer (some ⟨a4, 0, none⟩)] | 14 => HoldsFn 125 26 149 (.slice A3 l3.length c3) (.func (.func 90) #[] #[.pointer (some ⟨a4, 0, none⟩)]) w.heap.size q_ w' | 15 => q_ = .pointer (some ⟨g, 4, none⟩) | 16 => q_ = .slice A4 l4.length c4 | 17 => q_ = .func (.func 91) #[] #[.pointer (some ⟨a4, 0, none⟩)] | 18 => HoldsFn 126 27 150 (.slice A4 l4.length c4) (.func (.func 91) #[] #[.pointer (some ⟨a4, 0, none⟩)]) w.heap.size q_ w' | 19 => HoldsFive (HoldsFn 122 23 154 (.slice A0 l0.length c0) (.func (.func 94) #[] #[]) w.heap.size) (HoldsFn 123 24 147 (.slice A1 l1.length c1) (.func (.func 88) #[] #[.pointer (some ⟨n3, 0, none⟩)]) w.heap.size) (HoldsFn 124 25 148 (.slice A2 l2.length c2) (.func (.func 89) #[] #[.pointer (some ⟨a4, 0, none⟩)]) w.heap.size) (HoldsFn 125 26 149 (.slice A3 l3.length c3) (.func (.func 90) #[] #[.pointer (some ⟨a4, 0, none⟩)]) w.heap.size) (HoldsFn 126 27 150 (.slice A4 l4.length c4) (.func (.func 91) #[] #[.pointer (some ⟨a4, 0, none⟩)]) w.heap.size) q_ w' | 20 => q_ = .int .i64 (firstE [everyE vesselE l0, everyE (pipeE l0.length) l1, everyE (pumpE l0.length) l2, everyE (leakE l0.length) l3, everyE (getterE l0.length) l4]) | 21 => q_ = .int .i64 (firstE [everyE vesselE l0, everyE (pipeE l0.length) l1, everyE (pumpE l0.length) l2, everyE (leakE l0.length) l3, everyE (getterE l0.length) l4]) | _ => True) (fun b w' => Aside0 (Below w.heap.size w w') ∧ Aside0 (w'.heap[g]? = some (.cells #[.slice A0 l0.length c0, .slice A1 l1.length c1, .slice A2 l2.length c2, .slice A3 l3.length c3, .slice A4 l4.length c4] 29 (0, 0))) ∧ Aside0 (w'.heap[n3]? = some (.cells #[.int .i64 (l0.length : Int)] 3 (0, 0))) ∧ Aside0 (w'.heap[a4]? = some (.cells #[.func (.func 85) #[] #[.pointer (some ⟨n3, 0, none⟩)]] 146 (0, 0)))) rfl rfl (by kernel_rfl) (by kernel_rfl) (by kernel_rfl) ⟨⟨below_drew ((bel_r HB))⟩, ⟨Bg.out⟩, ⟨Bn3.out⟩, ⟨Ba4.out⟩⟩ ?_ ?_
  · intro o_ hi
    match o_, hi with
    | 0, _ =>
      intro b a wq hI hbi_ hb_ hoff_
      have e1 : a.eval (.tmp 1) = .pointer (some ⟨g, 0, none⟩) := hI.old 1 (by decide) rfl
      have s1 := sv_ e1
      have hJ := hI.j
      obtain ⟨HBq, Bgq, Bnq, Baq⟩ := hJ
      obtain ⟨cg_0, cg_1, cg_2, cg_3, cg_4⟩ := cells5 Bgq.out; 
      exact op_keep hI (i := 0) ⟨HBq, Bgq, Bnq, Baq⟩ (hrun := gs_)
    | 1, _ =>
      intro b a wq hI hbi_ hb_ hoff_
      have e43 := hI.new 43 0 (by decide) (hb_ 0 (by decide)) rfl fun _ h => h
      have s43 := sv_ e43
      have hJ := hI.j
      obtain ⟨HBq, Bgq, Bnq, Baq⟩ := hJ
      obtain ⟨cg_0, cg_1, cg_2, cg_3, cg_4⟩ := cells5 Bgq.out; 
      exact op_keep hI (i := 1) ⟨HBq, Bgq, Bnq, Baq⟩ (hrun := gs_)
    | 2, _ =>
      intro b a wq hI hbi_ hb_ hoff_
      have e44 := hI.new 44 1 (by decide) (hb_ 1 (by decide)) rfl fun _ h => h
      have s44 := sv_ e44
      have hJ := hI.j
      obtain ⟨HBq, Bgq, Bnq, Baq⟩ := hJ
      obtain ⟨cg_0, cg_1, cg_2, cg_3, cg_4⟩ := cells5 Bgq.out; 
      refine ⟨_, rfl, rfl, fun K hK => ?_⟩
      refine goes_ Try.func93 (by kernel_rfl) rfl #[.slice A0 l0.length c0, .func (.func 94) #[] #[]] rfl rfl rfl (by simp [s44, Act.eval]) ?_
      refine (mk_vessel A0 l0.length c0 (.func 94) #[] wq).mono ?_
      rintro e w2 ⟨b1, b2, rfl, g1, g2, ⟨h1⟩, ⟨h2⟩, hb2⟩
      exact ⟨_, rfl, hK _ _ ⟨⟨below_step HBq.out hb2⟩, ⟨blk_below Bgq.out hb2⟩, ⟨blk_below Bnq.out hb2⟩, ⟨blk_below Baq.out hb2⟩⟩ (fun k u hk => by revert hk; match k with | 0 => exact id | 1 => exact id | 2 => exact (fun h_ => HoldsFn.below h_ hb2) | 3 => exact id | 4 => exact id | 5 => exact id | 6 => exact (fun h_ => HoldsFn.below h_ hb2) | 7 => exact id | 8 => exact id | 9 => exact id | 10 => exact (fun h_ => HoldsFn.below h_ hb2) | 11 => exact id | 12 => exact id | 13 => exact id | 14 => exact (fun h_ => HoldsFn.below h_ hb2) | 15 => exact id | 16 => exact id | 17 => exact id | 18 => exact (fun h_ => HoldsFn.below h_ hb2) | 19 => exact (fun h_ => HoldsFive.below h_ hb2) | 20 => exact id | 21 => exact id | k + 22 => exact id) ⟨b1, b2, rfl, Nat.le_trans HBq.out.size g1, Nat.le_trans HBq.out.size g2, h1, h2⟩⟩
    | 3, _ =>
      intro b a wq hI hbi_ hb_ hoff_
      have e1 : a.eval (.tmp 1) = .pointer (some ⟨g, 0, none⟩) := hI.old 1 (by decide) rfl
      have s1 := sv_ e1
      have hJ := hI.j
      obtain ⟨HBq, Bgq, Bnq, Baq⟩ := hJ
      obtain ⟨cg_0, cg_1, cg_2, cg_3, cg_4⟩ := cells5 Bgq.out; 
      exact op_keep hI (i := 3) ⟨HBq, Bgq, Bnq, Baq⟩ (hrun := gs_)
    | 4, _ =>
      intro b a wq hI hbi_ hb_ hoff_
      have e46 := hI.new 46 3 (by decide) (hb_ 3 (by decide)) rfl fun _ h => h
      have s46 := sv_ e46
      have hJ := hI.j
      obtain ⟨HBq, Bgq, Bnq, Baq⟩ := hJ
      obtain ⟨cg_0, cg_1, cg_2, cg_3, cg_4⟩ := cells5 Bgq.out; 
      exact op_keep hI (i := 4) ⟨HBq, Bgq, Bnq, Baq⟩ (hrun := gs_)
    | 5, _ =>
      intro b a wq hI hbi_ hb_ hoff_
      have e5 : a.eval (.tmp 5) = .func (.func 88) #[] #[.pointer (some ⟨n3, 0, none⟩)] := hI.old 5 (by decide) rfl
      have s5 := sv_ e5
      have hJ := hI.j
      obtain ⟨HBq, Bgq, Bnq, Baq⟩ := hJ
      obtain ⟨cg_0, cg_1, cg_2, cg_3, cg_4⟩ := cells5 Bgq.out; 
      exact op_keep hI (i := 5) ⟨HBq, Bgq, Bnq, Baq⟩ (hrun := gs_)
    | 6, _ =>
      intro b a wq hI hbi_ hb_ hoff_
      have e47 := hI.new 47 4 (by decide) (hb_ 4 (by decide)) rfl fun _ h => h
      have s47 := sv_ e47
      have e48 := hI.new 48 5 (by decide) (hb_ 5 (by decide)) rfl fun _ h => h
      have s48 := sv_ e48
      have hJ := hI.j
      obtain ⟨HBq, Bgq, Bnq, Baq⟩ := hJ
      obtain ⟨cg_0, cg_1, cg_2, cg_3, cg_4⟩ := cells5 Bgq.out; 
      refine ⟨_, rfl, rfl, fun K hK => ?_⟩
      refine goes_ Try.func95 (by kernel_rfl) rfl #[.slice A1 l1.length c1, .func (.func 88) #[] #[.pointer (some ⟨n3, 0, none⟩)]] rfl rfl rfl (by simp [s47, s48, Act.eval]) ?_
      refine (mk_pipe A1 l1.length c1 (.func 88) #[.pointer (some ⟨n3, 0, none⟩)] wq).mono ?_
      rintro e w2 ⟨b1, b2, rfl, g1, g2, ⟨h1⟩, ⟨h2⟩, hb2⟩
      exact ⟨_, rfl, hK _ _ ⟨⟨below_step HBq.out hb2⟩, ⟨blk_below Bgq.out hb2⟩, ⟨blk_below Bnq.out hb2⟩, ⟨blk_below Baq.out hb2⟩⟩ (fun k u hk => by revert hk; match k with | 0 => exact id | 1 => exact id | 2 => exact (fun h_ => HoldsFn.below h_ hb2) | 3 => exact id | 4 => exact id | 5 => exact id | 6 => exact (fun h_ => HoldsFn.below h_ hb2) | 7 => exact id | 8 => exact id | 9 => exact id | 10 => exact (fun h_ => HoldsFn.below h_ hb2) | 11 => exact id | 12 => exact id | 13 => exact id | 14 => exact (fun h_ => HoldsFn.below h_ hb2) | 15 => exact id | 16 => exact id | 17 => exact id | 18 => exact (fun h_ => HoldsFn.below h_ hb2) | 19 => exact (fun h_ => HoldsFive.below h_ hb2) | 20 => exact id | 21 => exact id | k + 22 => exact id) ⟨b1, b2, rfl, Nat.le_trans HBq.out.size g1, Nat.le_trans HBq.out.size g2, h1, h2⟩⟩
    | 7, _ =>
      intro b a wq hI hbi_ hb_ hoff_
      have e1 : a.eval (.tmp 1) = .pointer (some ⟨g, 0, none⟩) := hI.old 1 (by decide) rfl
      have s1 := sv_ e1
      have hJ := hI.j
      obtain ⟨HBq, Bgq, Bnq, Baq⟩ := hJ
      obtain ⟨cg_0, cg_1, cg_2, cg_3, cg_4⟩ := cells5 Bgq.out; 
      exact op_keep hI (i := 7) ⟨HBq, Bgq, Bnq, Baq⟩ (hrun := gs_)
    | 8, _ =>
      intro b a wq hI hbi_ hb_ hoff_
      have e50 := hI.new 50 7 (by decide) (hb_ 7 (by decide)) rfl fun _ h => h
      have s50 := sv_ e50
      have hJ := hI.j
      obtain ⟨HBq, Bgq, Bnq, Baq⟩ := hJ
      obtain ⟨cg_0, cg_1, cg_2, cg_3, cg_4⟩ := cells5 Bgq.out; 
      exact op_keep hI (i := 8) ⟨HBq, Bgq, Bnq, Baq⟩ (hrun := gs_)
    | 9, _ =>
      intro b a wq hI hbi_ hb_ hoff_
      have e6 : a.eval (.tmp 6) = .func (.func 89) #[] #[.pointer (some ⟨a4, 0, none⟩)] := hI.old 6 (by decide) rfl
      have s6 := sv_ e6
      have hJ := hI.j
      obtain ⟨HBq, Bgq, Bnq, Baq⟩ := hJ
      obtain ⟨cg_0, cg_1, cg_2, cg_3, cg_4⟩ := cells5 Bgq.out; 
      exact op_keep hI (i := 9) ⟨HBq, Bgq, Bnq, Baq⟩ (hrun := gs_)
    | 10, _ =>
      intro b a wq hI hbi_ hb_ hoff_
      have e51 := hI.new 51 8 (by decide) (hb_ 8 (by decide)) rfl fun _ h => h
      have s51 := sv_ e51
      have e52 := hI.new 52 9 (by decide) (hb_ 9 (by decide)) rfl fun _ h => h
      have s52 := sv_ e52
      have hJ := hI.j
      obtain ⟨HBq, Bgq, Bnq, Baq⟩ := hJ
      obtain ⟨cg_0, cg_1, cg_2, cg_3, cg_4⟩ := cells5 Bgq.out; 
      refine ⟨_, rfl, rfl, fun K hK => ?_⟩
      refine goes_ Try.func96 (by kernel_rfl) rfl #[.slice A2 l2.length c2, .func (.func 89) #[] #[.pointer (some ⟨a4, 0, none⟩)]] rfl rfl rfl (by simp [s51, s52, Act.eval]) ?_
      refine (mk_pump A2 l2.length c2 (.func 89) #[.pointer (some ⟨a4, 0, none⟩)] wq).mono ?_
      rintro e w2 ⟨b1, b2, rfl, g1, g2, ⟨h1⟩, ⟨h2⟩, hb2⟩
      exact ⟨_, rfl, hK _ _ ⟨⟨below_step HBq.out hb2⟩, ⟨blk_below Bgq.out hb2⟩, ⟨blk_below Bnq.out hb2⟩, ⟨blk_below Baq.out hb2⟩⟩ (fun k u hk => by revert hk; match k with | 0 => exact id | 1 => exact id | 2 => exact (fun h_ => HoldsFn.below h_ hb2) | 3 => exact id | 4 => exact id | 5 => exact id | 6 => exact (fun h_ => HoldsFn.below h_ hb2) | 7 => exact id | 8 => exact id | 9 => exact id | 10 => exact (fun h_ => HoldsFn.below h_ hb2) | 11 => exact id | 12 => exact id | 13 => exact id | 14 => exact (fun h_ => HoldsFn.below h_ hb2) | 15 => exact id | 16 => exact id | 17 => exact id | 18 => exact (fun h_ => HoldsFn.below h_ hb2) | 19 => exact (fun h_ => HoldsFive.below h_ hb2) | 20 => exact id | 21 => exact id | k + 22 => exact id) ⟨b1, b2, rfl, Nat.le_trans HBq.out.size g1, Nat.le_trans HBq.out.size g2, h1, h2⟩⟩
    | 11, _ =>
      intro b a wq hI hbi_ hb_ hoff_
      have e1 : a.eval (.tmp 1) = .pointer (some ⟨g, 0, none⟩) := hI.old 1 (by decide) rfl
      have s1 := sv_ e1
      have hJ := hI.j
      obtain ⟨HBq, Bgq, Bnq, Baq⟩ := hJ
      obtain ⟨cg_0, cg_1, cg_2, cg_3, cg_4⟩ := cells5 Bgq.out; 
      exact op_keep hI (i := 11) ⟨HBq, Bgq, Bnq, Baq⟩ (hrun := gs_)
    | 12, _ =>
      intro b a wq hI hbi_ hb_ hoff_
      have e54 := hI.new 54 11 (by decide) (hb_ 11 (by decide)) rfl fun _ h => h
      have s54 := sv_ e54
      have hJ := hI.j
      obtain ⟨HBq, Bgq, Bnq, Baq⟩ := hJ
      obtain ⟨cg_0, cg_1, cg_2, cg_3, cg_4⟩ := cells5 Bgq.out; 
      exact op_keep hI (i := 12) ⟨HBq, Bgq, Bnq, Baq⟩ (hrun := gs_)
    | 13, _ =>
      intro b a wq hI hbi_ hb_ hoff_
      have e7 : a.eval (.tmp 7) = .func (.func 90) #[] #[.pointer (some ⟨a4, 0, none⟩)] := hI.old 7 (by decide) rfl
      have s7 := sv_ e7
      have hJ := hI.j
      obtain ⟨HBq, Bgq, Bnq, Baq⟩ := hJ
      obtain ⟨cg_0, cg_1, cg_2, cg_3, cg_4⟩ := cells5 Bgq.out; 
      exact op_keep hI (i := 13) ⟨HBq, Bgq, Bnq, Baq⟩ (hrun := gs_)
    | 14, _ =>
      intro b a wq hI hbi_ hb_ hoff_
      have e55 := hI.new 55 12 (by decide) (hb_ 12 (by decide)) rfl fun _ h => h
      have s55 := sv_ e55
      have e56 := hI.new 56 13 (by decide) (hb_ 13 (by decide)) rfl fun _ h => h
      have s56 := sv_ e56
      have hJ := hI.j
      obtain ⟨HBq, Bgq, Bnq, Baq⟩ := hJ
      obtain ⟨cg_0, cg_1, cg_2, cg_3, cg_4⟩ := cells5 Bgq.out; 
      refine ⟨_, rfl, rfl, fun K hK => ?_⟩
      refine goes_ Try.func97 (by kernel_rfl) rfl #[.slice A3 l3.length c3, .func (.func 90) #[] #[.pointer (some ⟨a4, 0, none⟩)]] rfl rfl rfl (by simp [s55, s56, Act.eval]) ?_
      refine (mk_leak A3 l3.length c3 (.func 90) #[.pointer (some ⟨a4, 0, none⟩)] wq).mono ?_
      rintro e w2 ⟨b1, b2, rfl, g1, g2, ⟨h1⟩, ⟨h2⟩, hb2⟩
      exact ⟨_, rfl, hK _ _ ⟨⟨below_step HBq.out hb2⟩, ⟨blk_below Bgq.out hb2⟩, ⟨blk_below Bnq.out hb2⟩, ⟨blk_below Baq.out hb2⟩⟩ (fun k u hk => by revert hk; match k with | 0 => exact id | 1 => exact id | 2 => exact (fun h_ => HoldsFn.below h_ hb2) | 3 => exact id | 4 => exact id | 5 => exact id | 6 => exact (fun h_ => HoldsFn.below h_ hb2) | 7 => exact id | 8 => exact id | 9 => exact id | 10 => exact (fun h_ => HoldsFn.below h_ hb2) | 11 => exact id | 12 => exact id | 13 => exact id | 14 => exact (fun h_ => HoldsFn.below h_ hb2) | 15 => exact id | 16 => exact id | 17 => exact id | 18 => exact (fun h_ => HoldsFn.below h_ hb2) | 19 => exact (fun h_ => HoldsFive.below h_ hb2) | 20 => exact id | 21 => exact id | k + 22 => exact id) ⟨b1, b2, rfl, Nat.le_trans HBq.out.size g1, Nat.le_trans HBq.out.size g2, h1, h2⟩⟩
    | 15, _ =>
      intro b a wq hI hbi_ hb_ hoff_
      have e1 : a.eval (.tmp 1) = .pointer (some ⟨g, 0, none⟩) := hI.old 1 (by decide) rfl
      have s1 := sv_ e1
      have hJ := hI.j
      obtain ⟨HBq, Bgq, Bnq, Baq⟩ := hJ
      obtain ⟨cg_0, cg_1, cg_2, cg_3, cg_4⟩ := cells5 Bgq.out; 
      exact op_keep hI (i := 15) ⟨HBq, Bgq, Bnq, Baq⟩ (hrun := gs_)
    | 16, _ =>
      intro b a wq hI hbi_ hb_ hoff_
      have e58 := hI.new 58 15 (by decide) (hb_ 15 (by decide)) rfl fun _ h => h
      have s58 := sv_ e58
      have hJ := hI.j
      obtain ⟨HBq, Bgq, Bnq, Baq⟩ := hJ
      obtain ⟨cg_0, cg_1, cg_2, cg_3, cg_4⟩ := cells5 Bgq.out; 
      exact op_keep hI (i := 16) ⟨HBq, Bgq, Bnq, Baq⟩ (hrun := gs_)
    | 17, _ =>
      intro b a wq hI hbi_ hb_ hoff_
      have e8 : a.eval (.tmp 8) = .func (.func 91) #[] #[.pointer (some ⟨a4, 0, none⟩)] := hI.old 8 (by decide) rfl
      have s8 := sv_ e8
      have hJ := hI.j
      obtain ⟨HBq, Bgq, Bnq, Baq⟩ := hJ
      obtain ⟨cg_0, cg_1, cg_2, cg_3, cg_4⟩ := cells5 Bgq.out; 
      exact op_keep hI (i := 17) ⟨HBq, Bgq, Bnq, Baq⟩ (hrun := gs_)
    | 18, _ =>
      intro b a wq hI hbi_ hb_ hoff_
      have e59 := hI.new 59 16 (by decide) (hb_ 16 (by decide)) rfl fun _ h => h
      have s59 := sv_ e59
      have e60 := hI.new 60 17 (by decide) (hb_ 17 (by decide)) rfl fun _ h => h
      have s60 := sv_ e60
      have hJ := hI.j
      obtain ⟨HBq, Bgq, Bnq, Baq⟩ := hJ
      obtain ⟨cg_0, cg_1, cg_2, cg_3, cg_4⟩ := cells5 Bgq.out; 
      refine ⟨_, rfl, rfl, fun K hK => ?_⟩
      refine goes_ Try.func98 (by kernel_rfl) rfl #[.slice A4 l4.length c4, .func (.func 91) #[] #[.pointer (some ⟨a4, 0, none⟩)]] rfl rfl rfl (by simp [s59, s60, Act.eval]) ?_
      refine (mk_getter A4 l4.length c4 (.func 91) #[.pointer (some ⟨a4, 0, none⟩)] wq).mono ?_
      rintro e w2 ⟨b1, b2, rfl, g1, g2, ⟨h1⟩, ⟨h2⟩, hb2⟩
      exact ⟨_, rfl, hK _ _ ⟨⟨below_step HBq.out hb2⟩, ⟨blk_below Bgq.out hb2⟩, ⟨blk_below Bnq.out hb2⟩, ⟨blk_below Baq.out hb2⟩⟩ (fun k u hk => by revert hk; match k with | 0 => exact id | 1 => exact id | 2 => exact (fun h_ => HoldsFn.below h_ hb2) | 3 => exact id | 4 => exact id | 5 => exact id | 6 => exact (fun h_ => HoldsFn.below h_ hb2) | 7 => exact id | 8 => exact id | 9 => exact id | 10 => exact (fun h_ => HoldsFn.below h_ hb2) | 11 => exact id | 12 => exact id | 13 => exact id | 14 => exact (fun h_ => HoldsFn.below h_ hb2) | 15 => exact id | 16 => exact id | 17 => exact id | 18 => exact (fun h_ => HoldsFn.below h_ hb2) | 19 => exact (fun h_ => HoldsFive.below h_ hb2) | 20 => exact id | 21 => exact id | k + 22 => exact id) ⟨b1, b2, rfl, Nat.le_trans HBq.out.size g1, Nat.le_trans HBq.out.size g2, h1, h2⟩⟩
    | 19, _ =>
      intro b a wq hI hbi_ hb_ hoff_
      obtain ⟨y0, hy0, hT0⟩ := hI.t 2 45 (by decide) (hb_ 2 (by decide)) rfl
      obtain ⟨p0, q0, rfl, gp0, gq0, hp0, hq0⟩ := hT0
      have s45 : a.tmps[45]?.getD undef = .func (.func 122) #[] #[.pointer (some ⟨p0, 0, none⟩), .pointer (some ⟨q0, 0, none⟩)] := by rw [hy0]; rfl
      obtain ⟨y1, hy1, hT1⟩ := hI.t 6 49 (by decide) (hb_ 6 (by decide)) rfl
      obtain ⟨p1, q1, rfl, gp1, gq1, hp1, hq1⟩ := hT1
      have s49 : a.tmps[49]?.getD undef = .func (.func 123) #[] #[.pointer (some ⟨p1, 0, none⟩), .pointer (some ⟨q1, 0, none⟩)] := by rw [hy1]; rfl
      obtain ⟨y2, hy2, hT2⟩ := hI.t 10 53 (by decide) (hb_ 10 (by decide)) rfl
      obtain ⟨p2, q2, rfl, gp2, gq2, hp2, hq2⟩ := hT2
      have s53 : a.tmps[53]?.getD undef = .func (.func 124) #[] #[.pointer (some ⟨p2, 0, none⟩), .pointer (some ⟨q2, 0, none⟩)] := by rw [hy2]; rfl
      obtain ⟨y3, hy3, hT3⟩ := hI.t 14 57 (by decide) (hb_ 14 (by decide)) rfl
      obtain ⟨p3, q3, rfl, gp3, gq3, hp3, hq3⟩ := hT3
      have s57 : a.tmps[57]?.getD undef = .func (.func 125) #[] #[.pointer (some ⟨p3, 0, none⟩), .pointer (some ⟨q3, 0, none⟩)] := by rw [hy3]; rfl
      obtain ⟨y4, hy4, hT4⟩ := hI.t 18 61 (by decide) (hb_ 18 (by decide)) rfl
      obtain ⟨p4, q4, rfl, gp4, gq4, hp4, hq4⟩ := hT4
      have s61 : a.tmps[61]?.getD undef = .func (.func 126) #[] #[.pointer (some ⟨p4, 0, none⟩), .pointer (some ⟨q4, 0, none⟩)] := by rw [hy4]; rfl
      have hJ := hI.j
      obtain ⟨HBq, Bgq, Bnq, Baq⟩ := hJ
      obtain ⟨cg_0, cg_1, cg_2, cg_3, cg_4⟩ := cells5 Bgq.out; 
      refine ⟨_, rfl, rfl, fun K hK => ?_⟩
      have hb2 : Below wq.heap.size wq (wq.alloc (.cells #[.func (.func 122) #[] #[.pointer (some ⟨p0, 0, none⟩), .pointer (some ⟨q0, 0, none⟩)], .func (.func 123) #[] #[.pointer (some ⟨p1, 0, none⟩), .pointer (some ⟨q1, 0, none⟩)], .func (.func 124) #[] #[.pointer (some ⟨p2, 0, none⟩), .pointer (some ⟨q2, 0, none⟩)], .func (.func 125) #[] #[.pointer (some ⟨p3, 0, none⟩), .pointer (some ⟨q3, 0, none⟩)], .func (.func 126) #[] #[.pointer (some ⟨p4, 0, none⟩), .pointer (some ⟨q4, 0, none⟩)]] 152)) := below_alloc (Below.refl _ _) _
      refine value_ (N := some 62) rfl rfl (v := .slice (some ⟨wq.heap.size, 0, none⟩) 5 5) (w1 := wq.alloc (.cells #[.func (.func 122) #[] #[.pointer (some ⟨p0, 0, none⟩), .pointer (some ⟨q0, 0, none⟩)], .func (.func 123) #[] #[.pointer (some ⟨p1, 0, none⟩), .pointer (some ⟨q1, 0, none⟩)], .func (.func 124) #[] #[.pointer (some ⟨p2, 0, none⟩), .pointer (some ⟨q2, 0, none⟩)], .func (.func 125) #[] #[.pointer (some ⟨p3, 0, none⟩), .pointer (some ⟨q3, 0, none⟩)], .func (.func 126) #[] #[.pointer (some ⟨p4, 0, none⟩), .pointer (some ⟨q4, 0, none⟩)]] 152)) gs_ (hK _ _ ⟨⟨below_step HBq.out hb2⟩, ⟨blk_below Bgq.out hb2⟩, ⟨blk_below Bnq.out hb2⟩, ⟨blk_below Baq.out hb2⟩⟩ (fun k u hk => by revert hk; match k with | 0 => exact id | 1 => exact id | 2 => exact (fun h_ => HoldsFn.below h_ hb2) | 3 => exact id | 4 => exact id | 5 => exact id | 6 => exact (fun h_ => HoldsFn.below h_ hb2) | 7 => exact id | 8 => exact id | 9 => exact id | 10 => exact (fun h_ => HoldsFn.below h_ hb2) | 11 => exact id | 12 => exact id | 13 => exact id | 14 => exact (fun h_ => HoldsFn.below h_ hb2) | 15 => exact id | 16 => exact id | 17 => exact id | 18 => exact (fun h_ => HoldsFn.below h_ hb2) | 19 => exact (fun h_ => HoldsFive.below h_ hb2) | 20 => exact id | 21 => exact id | k + 22 => exact id) ⟨wq.heap.size, _, _, _, _, _, rfl, heap_alloc_new wq _, HoldsFn.below ⟨p0, q0, rfl, gp0, gq0, hp0, hq0⟩ hb2, HoldsFn.below ⟨p1, q1, rfl, gp1, gq1, hp1, hq1⟩ hb2, HoldsFn.below ⟨p2, q2, rfl, gp2, gq2, hp2, hq2⟩ hb2, HoldsFn.below ⟨p3, q3, rfl, gp3, gq3, hp3, hq3⟩ hb2, HoldsFn.below ⟨p4, q4, rfl, gp4, gq4, hp4, hq4⟩ hb2⟩)
    | 20, _ =>
      intro b a wq hI hbi_ hb_ hoff_
      obtain ⟨y62, hy62, hT62⟩ := hI.t 19 62 (by decide) (hb_ 19 (by decide)) rfl
      obtain ⟨bs, x1, x2, x3, x4, x5, rfl, hbs, ⟨p0, q0, rfl, gp0, gq0, hp0, hq0⟩, ⟨p1, q1, rfl, gp1, gq1, hp1, hq1⟩, ⟨p2, q2, rfl, gp2, gq2, hp2, hq2⟩, ⟨p3, q3, rfl, gp3, gq3, hp3, hq3⟩, ⟨p4, q4, rfl, gp4, gq4, hp4, hq4⟩⟩ := hT62
      have e62 := eval_of hy62
      have hJ := hI.j
      obtain ⟨HBq, Bgq, Bnq, Baq⟩ := hJ
      obtain ⟨cg_0, cg_1, cg_2, cg_3, cg_4⟩ := cells5 Bgq.out; 
      refine ⟨_, rfl, rfl, fun K hK => ?_⟩
      have H2L := HM2.out
      refine goes_ Try.func92 (by kernel_rfl) rfl #[.slice (some ⟨bs, 0, none⟩) 5 5] rfl rfl rfl (by simp [e62]) ?_
      refine (first_any _ _ _ _ _ _ _ _ _ _ bs wq hbs (fun W hW => every_vessel l0 A0 c0 p0 q0 W (Kd.C_below HR0.out (below_step HBq.out hW)) HC0.out (by omega) (blk_below hp0 hW) (blk_below hq0 hW)) (fun W hW => every_pipe l1 A1 c1 p1 q1 n3 l0.length W (Kd.C_below HR1.out (below_step HBq.out hW)) HC1.out (by omega) (blk_below hp1 hW) (blk_below hq1 hW) (by omega) (by omega) (blk_below Bnq.out hW)) (fun W hW => every_pump l2 A2 c2 p2 q2 a4 n3 l0.length W (Kd.C_below HR2.out (below_step HBq.out hW)) HC2.out (by omega) (blk_below hp2 hW) (blk_below hq2 hW) (by omega) (by omega) (blk_below Bnq.out hW) (blk_below Baq.out hW)) (fun W hW => every_leak l3 A3 c3 p3 q3 a4 n3 l0.length W (Kd.C_below HR3.out (below_step HBq.out hW)) HC3.out (by omega) (blk_below hp3 hW) (blk_below hq3 hW) (by omega) (by omega) (blk_below Bnq.out hW) (blk_below Baq.out hW)) (fun W hW => every_getter l4 A4 c4 p4 q4 a4 n3 l0.length W (Kd.C_below HR4.out (below_step HBq.out hW)) HC4.out (by omega) (blk_below hp4 hW) (blk_below hq4 hW) (by omega) (by omega) (blk_below Bnq.out hW) (blk_below Baq.out hW))).mono ?_
      rintro e w2 ⟨rfl, hb2⟩
      exact ⟨_, rfl, hK _ _ ⟨⟨below_step HBq.out hb2⟩, ⟨blk_below Bgq.out hb2⟩, ⟨blk_below Bnq.out hb2⟩, ⟨blk_below Baq.out hb2⟩⟩ (fun k u hk => by revert hk; match k with | 0 => exact id | 1 => exact id | 2 => exact (fun h_ => HoldsFn.below h_ hb2) | 3 => exact id | 4 => exact id | 5 => exact id | 6 => exact (fun h_ => HoldsFn.below h_ hb2) | 7 => exact id | 8 => exact id | 9 => exact id | 10 => exact (fun h_ => HoldsFn.below h_ hb2) | 11 => exact id | 12 => exact id | 13 => exact id | 14 => exact (fun h_ => HoldsFn.below h_ hb2) | 15 => exact id | 16 => exact id | 17 => exact id | 18 => exact (fun h_ => HoldsFn.below h_ hb2) | 19 => exact (fun h_ => HoldsFive.below h_ hb2) | 20 => exact id | 21 => exact id | k + 22 => exact id) rfl⟩
    | 21, _ =>
      intro b a wq hI hbi_ hb_ hoff_
      have e63 := hI.new 63 20 (by decide) (hb_ 20 (by decide)) rfl fun _ h => h
      have s63 := sv_ e63
      have hJ := hI.j
      obtain ⟨HBq, Bgq, Bnq, Baq⟩ := hJ
      obtain ⟨cg_0, cg_1, cg_2, cg_3, cg_4⟩ := cells5 Bgq.out; 
      exact op_keep hI (i := 21) ⟨HBq, Bgq, Bnq, Baq⟩ (hrun := gs_)
    | o_ + 22, hi => exact absurd hi (by omega)
  intro vs w6 b hall hJ hT
  obtain ⟨Hall, HJ0, HT0⟩ : Aside0 (∀ j, j < 22 → b j = true) ∧ Aside0 _ ∧ Aside0 _ := ⟨⟨hall⟩, ⟨hJ⟩, ⟨hT⟩⟩
  clear hall hJ hT
  have t0_ := HT0.out 0 (by decide) (by decide)
  have t1_ := HT0.out 1 (by decide) (by decide)
  have t3_ := HT0.out 3 (by decide) (by decide)
  have t4_ := HT0.out 4 (by decide) (by decide)
  have t5_ := HT0.out 5 (by decide) (by decide)
  have t7_ := HT0.out 7 (by decide) (by decide)
  have t8_ := HT0.out 8 (by decide) (by decide)
  have t9_ := HT0.out 9 (by decide) (by decide)
  have t11_ := HT0.out 11 (by decide) (by decide)
  have t12_ := HT0.out 12 (by decide) (by decide)
  have t13_ := HT0.out 13 (by decide) (by decide)
  have t15_ := HT0.out 15 (by decide) (by decide)
  have t16_ := HT0.out 16 (by decide) (by decide)
  have t17_ := HT0.out 17 (by decide) (by decide)
  have t20_ := HT0.out 20 (by decide) (by decide)
  have t21_ := HT0.out 21 (by decide) (by decide)
  simp only [fillAll, show List.range 22 = [0, 1, 2, 3, 4, 5, 6, 7, 8, 9, 10, 11, 12, 13, 14, 15, 16, 17, 18, 19, 20, 21] from rfl]
  rw [(show vs 0 = _ from t0_), (show vs 1 = _ from t1_), (show vs 3 = _ from t3_), (show vs 4 = _ from t4_), (show vs 5 = _ from t5_), (show vs 7 = _ from t7_), (show vs 8 = _ from t8_), (show vs 9 = _ from t9_), (show vs 11 = _ from t11_), (show vs 12 = _ from t12_), (show vs 13 = _ from t13_), (show vs 15 = _ from t15_), (show vs 16 = _ from t16_), (show vs 17 = _ from t17_), (show vs 20 = _ from t20_), (show vs 21 = _ from t21_)]
  clear t0_ t1_ t3_ t4_ t5_ t7_ t8_ t9_ t11_ t12_ t13_ t15_ t16_ t17_ t20_ t21_
  simp only [Act.put, List.setIfInBounds_toArray, List.set_cons_zero, List.set_cons_succ]
  obtain ⟨HBn, nBg, _, _⟩ := HJ0.out
  clear HB Bg Bn3 Ba4 HJ0 HT0 Hall
  have HB := HBn
  have Bg := nBg
  clear HBn nBg cg_0 cg_1 cg_2 cg_3 cg_4
  obtain ⟨cg_0, cg_1, cg_2, cg_3, cg_4⟩ := cells5 Bg.out; 
  cases he : (firstE [everyE vesselE l0, everyE (pipeE l0.length) l1, everyE (pumpE l0.length) l2, everyE (leakE l0.length) l3, everyE (getterE l0.length) l4]) == 0
  · have hen : ((firstE [everyE vesselE l0, everyE (pipeE l0.length) l1, everyE (pumpE l0.length) l2, everyE (leakE l0.length) l3, everyE (getterE l0.length) l4]) != 0) = true := by simpa using he
    have HE : Aside0 (checkV l0 l1 l2 l3 l4 = (firstE [everyE vesselE l0, everyE (pipeE l0.length) l1, everyE (pumpE l0.length) l2, everyE (leakE l0.length) l3, everyE (getterE l0.length) l4])) := ⟨by unfold checkV; rw [if_neg HZ.out, if_neg H8.out, if_neg H16.out, if_neg HM.out, if_pos (by simpa using he)]⟩
    go_wp2
    go_ret
    exact ⟨by rw [HE.out]; rfl, (bel_r HB)⟩
  · have hen : ((firstE [everyE vesselE l0, everyE (pipeE l0.length) l1, everyE (pumpE l0.length) l2, everyE (leakE l0.length) l3, everyE (getterE l0.length) l4]) != 0) = false := by simpa using he
    have HE : Aside0 (checkV l0 l1 l2 l3 l4 = if (leavingL l1 l2 []).any (fun x => decide (1000000 < x.2.f1)) = true then 14 else 0) := ⟨by unfold checkV; rw [if_neg HZ.out, if_neg H8.out, if_neg H16.out, if_neg HM.out, if_neg (by simpa using he)]⟩
    have HNIL : Aside0 (∀ W : World, Kd.C (Kd.int .i64) W none ([] : List Int).length []) := ⟨fun W => ⟨rfl, by simp, fun h_ => absurd h_ (by simp)⟩⟩
    go_wp2_with (first | ((with_reducible refine gate_callee (f := 99) rfl ?_); go_must (refine goes_c (some 68) Try.func99 (leaving_any l1 l2 [] A0 A1 A2 A3 A4 none l0.length c0 c1 c2 l3.length c3 l4.length c4 0 _ (Kd.C_below HR1.out HB.out) (Kd.C_below HR2.out HB.out) (HNIL.out _) HC1.out HC2.out (Nat.le_refl _) (by have := HM2.out; omega) (by have := HM2.out; omega) (by simp)) (h := ?_); rintro e w8 ⟨m, rfl, gm_, ⟨hm_⟩, hb⟩; refine ⟨_, rfl, ?_⟩; replace HB := bel_b hb HB; replace Bg := blk_b hb Bg; (try clear cg_0 cg_1 cg_2 cg_3 cg_4); obtain ⟨cg_0, cg_1, cg_2, cg_3, cg_4⟩ := cells5 Bg.out; (try clear hb); have Bm := Aside0.mk hm_; clear hm_; have HGm := Aside0.mk gm_; clear gm_)) | ((with_reducible refine gate_dst (N := 69) rfl ?_); go_must (refine range_event rfl 159 (.tmp 68) rfl rfl Bm.out Try.underlying159 ?_; intro r hgr w9 hit_ hb; have GEr : Aside0 (w.heap.size ≤ r) := ⟨by rw [hgr]; exact (show Below w.heap.size w _ from (bel_r HB)).size⟩; have Nmr : Aside0 (m ≠ r) := ⟨by rw [hgr]; exact Nat.ne_of_lt (IsMap.lt Bm.out)⟩; replace HB := bel_b hb HB; replace Bm := map_b hb Bm; (try clear hb); have HI := Aside0.mk hit_; clear hit_ hgr)))
    go_frame
    go_loopg [70] (leftN (leavingL l1 l2 []).length #[]) (fun k _ w' => ∃ seen : Array Nat, k = leftN (leavingL l1 l2 []).length seen ∧ Aside0 (∀ j x, (leavingL l1 l2 [])[j]? = some x → seen.contains j = true → x.2.f1 ≤ 1000000) ∧ Aside0 (IsMap .i64 rangeV w' m (leavingL l1 l2 [])) ∧ Aside0 (IsIter w' r m (leavingL l1 l2 []).length seen) ∧ Aside0 (Below w.heap.size w w'))
    case atStart => exact ⟨#[], rfl, ⟨fun j x _ h => by simp at h⟩, Bm, HI, HB⟩
    case round =>
      clear HB Bm HI
      obtain ⟨seen, hk, HS, Bm, HI, HB⟩ := hrel
      have Hk := Aside0.mk hk
      clear hk
      go_wp2_with (first | ((with_reducible refine gate_dst (N := 70) rfl ?_); go_must (refine next_event rfl _ (.tmp 69) rfl rfl rfl Bm.out HI.out ?_ ?_; intro hl_; rotate_left; intro j x w10 hj_ hs_ ho_ hit_ hen; have nHB := Aside0.mk (Only.below ho_ HB.out GEr.out); have nBm := Aside0.mk (IsMap.only Bm.out ho_ Nmr.out); clear HB Bm HI; have HB := nHB; have Bm := nBm; clear nHB nBm ho_; have Br := Aside0.mk hit_; have HJ := Aside0.mk hj_; have HSn := Aside0.mk hs_; clear hit_ hj_ hs_; rotate_right)) | ((with_reducible refine gate_dst (N := 11) rfl ?_); go_must (refine box_ev (N := 11) (cs := #[.int .i64 0, .int .i64 0]) (t := 32) (h := ?_); intro eb hgeb w11 hbox hb; have GEeb := ge_new HB hgeb; have N_m_eb := ne_new Bm hgeb; have N_r_eb := it_new Br hgeb; replace HB := bel_b hb HB; replace Bm := map_b hb Bm; replace Br := it_b hb Br; have Beb := Aside0.mk hbox; clear hbox; obtain ⟨ceb_0, ceb_1⟩ := cells2 Beb.out; (try clear hb); clear hgeb)) | ((with_reducible refine gate_store (t := 32) (p := 11) rfl ?_); go_must (refine row_ev eb #[.int .i64 x.2.f0, .int .i64 x.2.f1] Beb.out (h := ?_); intro w12 hbox ho_; replace HB := bel_o ho_ HB GEeb; replace Bm := map_o ho_ Bm (by first | exact N_m_eb.out | exact N_eb_m.out.symm); replace Br := it_o ho_ Br (by first | exact N_r_eb.out | exact N_eb_r.out.symm); replace Beb := Aside0.mk hbox; clear hbox ho_; (try clear ceb_0 ceb_1); obtain ⟨ceb_0, ceb_1⟩ := cells2 Beb.out; )))
      · have HL0 := Aside0.mk hl_
        clear hl_
        have HE0 : Aside0 (checkV l0 l1 l2 l3 l4 = 0) := ⟨by
          rw [HE.out, if_neg]
          intro hany
          obtain ⟨x, hx, hx2⟩ := List.any_eq_true.1 hany
          obtain ⟨j, hj, hjx⟩ := List.mem_iff_getElem.1 hx
          have := HS.out j x (by rw [List.getElem?_eq_getElem hj, hjx]) (leftN_zero HL0.out hj)
          simp at hx2
          omega⟩
        go_wp2
        go_ret
        exact ⟨by rw [HE0.out]; rfl, (bel_r HB)⟩
      · have hx : 1000000 < x.2.f1 := by assumption
        have HE0 : Aside0 (checkV l0 l1 l2 l3 l4 = 14) := ⟨by
          rw [HE.out, if_pos]
          exact List.any_eq_true.2 ⟨x, List.mem_of_getElem? HJ.out, by simpa using hx⟩⟩
        go_ret
        exact ⟨by rw [HE0.out]; rfl, (bel_r HB)⟩
      · have hx : x.2.f1 ≤ 1000000 := by assumption
        go_roundg (leftN (leavingL l1 l2 []).length (seen.push j))
        case measure => rw [Hk.out]; exact leftN_push (List.getElem?_eq_some_iff.1 HJ.out).1 HSn.out
        case rel => exact ⟨seen.push j, rfl, ⟨fun i y hy hs => by
          rw [Array.contains_push, Bool.or_eq_true] at hs
          rcases hs with hs | hs
          · exact HS.out i y hy hs
          · have : i = j := by simpa using hs
            subst this
            rw [HJ.out] at hy
            injection hy with hy
            subst hy
            omega⟩, Bm, Br, HB⟩
end Go.Proofs.Ytkhnhkjihhhbbaa.P

namespace Go.Proofs.Ytkhnhkjihhhbbaa.P
open Go.RowKit Go.Proofs.YtkhnhkjihhhbbaaW.PrintWords Go.Proofs.YtkhnhkjihhhbbaaW.PrintLast Go.Proofs.YtkhnhkjihhhbbaaW.PrintMore
set_option linter.unusedVariables false
set_option linter.unusedSimpArgs false
def pump_Check.f (l0 : List S36) (l1 : List S138) (l2 : List S112) (l3 : List S140) (l4 : List S142) : Option Int := some (checkV l0 l1 l2 l3 l4)
theorem pump_Check.calls (A0 : Option Addr) (c0 : Nat) (l0 : List S36) (A1 : Option Addr) (c1 : Nat) (l1 : List S138) (A2 : Option Addr) (c2 : Nat) (l2 : List S112) (A3 : Option Addr) (c3 : Nat) (l3 : List S140) (A4 : Option Addr) (c4 : Nat) (l4 : List S142) (r : Int) (w : World)
    (hr0 : Kd.C k36 w A0 l0.length l0) (hc0 : l0.length ≤ c0) (hr1 : Kd.C k138 w A1 l1.length l1) (hc1 : l1.length ≤ c1) (hr2 : Kd.C k112 w A2 l2.length l2) (hc2 : l2.length ≤ c2) (hr3 : Kd.C k140 w A3 l3.length l3) (hc3 : l3.length ≤ c3) (hr4 : Kd.C k142 w A4 l4.length l4) (hc4 : l4.length ≤ c4)
    (h : pump_Check.f l0 l1 l2 l3 l4 = some r) :
    Calls Try.prog 37 #[.agg #[.slice A0 l0.length c0, .slice A1 l1.length c1, .slice A2 l2.length c2, .slice A3 l3.length c3, .slice A4 l4.length c4]] w fun e w' => e = .returned (.int .i64 r) ∧ Below w.heap.size w w' := by
  have h2 : checkV l0 l1 l2 l3 l4 = r := Option.some.inj h
  rw [← h2]
  exact check_any l0 l1 l2 l3 l4 A0 A1 A2 A3 A4 c0 c1 c2 c3 c4 w hr0 hr1 hr2 hr3 hr4 hc0 hc1 hc2 hc3 hc4
end Go.Proofs.Ytkhnhkjihhhbbaa.P

