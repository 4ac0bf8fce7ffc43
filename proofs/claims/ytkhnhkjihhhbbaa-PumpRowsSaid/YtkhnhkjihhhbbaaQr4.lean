/- In a row of suspects, each beginning of which can be tested at the cost 1, the worst case of a hunt is the least k of which 2^k is at least their number: thermionlaw06.PumpRows returns true for every input, under no condition. -/
import Derived.Test.YtkhnhkjihhhbbaaQr3
namespace Go.Proofs.Ytkhnhkjihhhbbaa.P
open Go.RowKit Go.Proofs.YtkhnhkjihhhbbaaW.PrintWords Go.Proofs.YtkhnhkjihhhbbaaW.PrintLast Go.Proofs.YtkhnhkjihhhbbaaW.PrintMore
set_option linter.unusedVariables false
set_option linter.unusedSimpArgs false
attribute [local go_sem] max2_int min2_int max_two min_two
/-- A row of ranges of the call's own. -/
def RW (w : World) (n0 : Nat) (v : Value) (l : List S32) : Prop := Kd.R k32 32 w n0 (fun _ => True) v l
def Dis (u v : Value) : Prop := ∀ k, u.ownBlock = some k → some k ≠ v.ownBlock
section
variable {w w1 : World} {n0 g : Nat} {u v : Value} {l : List S32}
theorem RW.only (h : RW w n0 v l) (ho : Only g w w1) (hne : ∀ k, v.ownBlock = some k → k ≠ g) : RW w1 n0 v l :=
  Kd.R_grown2 h rfl ho.grownBy (fun k hk e => by injection hk with hk; exact hne k e.symm hk.symm)
theorem rw_b {W W' w2 : World} (hb : Below W'.heap.size W' w2) (h : Aside0 (RW W n0 v l)) (h4 : W'.heap = W.heap := by exact rfl) : Aside0 (RW w2 n0 v l) := ⟨Kd.R_below (R_r h h4) hb⟩
theorem rw_new {W W' : World} (h : Aside0 (RW W n0 v l)) (hg : g = W'.heap.size) (h4 : W'.heap = W.heap := by exact rfl) : Aside0 (∀ k, v.ownBlock = some k → k ≠ g) := ⟨by rw [hg, h4]; exact fun k hk => Nat.ne_of_lt (Kd.R_lt h.out k hk)⟩
theorem rw_o {W W' w2 : World} (ho : Only g W' w2) (h : Aside0 (RW W n0 v l)) (hne : ∀ k, v.ownBlock = some k → k ≠ g) (h4 : W'.heap = W.heap := by exact rfl) : Aside0 (RW w2 n0 v l) := ⟨RW.only (R_r h h4) ho hne⟩
theorem RW.grown (h : RW w n0 v l) {row : Option Nat} (hg : w.grownBy w1 row) (hd : ∀ k, row = some k → some k ≠ v.ownBlock) : RW w1 n0 v l := Kd.R_grown2 h rfl hg hd
theorem RW.lt (h : RW w n0 v l) : ∀ k, v.ownBlock = some k → k < w.heap.size := Kd.R_lt h
theorem RW.ne (h : RW w n0 v l) {t : TypeId} {cells : Array Value} (hb : w.heap[g]? = some (.cells cells t (0, 0))) (ht : 32 ≠ t) : some g ≠ v.ownBlock := Kd.R_ne h hb ht
theorem blk_grown2 {k : Nat} {o : Obj} {row : Option Nat} (hg : w.grownBy w1 row) (hb : w.heap[k]? = some o) (hne : ∀ j, row = some j → k ≠ j) : w1.heap[k]? = some o :=
  (hg.block k (blk_lt hb) (fun e => hne k e.symm rfl)).trans hb
theorem reads_one {x : S32} (hc : w.heap[g]? = some (.cells #[.int .i64 x.f0, .int .i64 x.f1] 32 (0, 0))) : ReadsRow (k32.K w) k32.sz w (some ⟨g, 0, none⟩) 1 [x] := by
  refine ⟨rfl, by decide, fun _ => ⟨_, rfl, fun j p hj => ?_⟩⟩
  match j, hj with
  | 0, hj =>
    simp at hj
    subst hj
    refine ⟨_, rfl, k32_mk w x, fun i u hu => ?_⟩
    match i, hu with
    | 0, hu => simp at hu; subst hu; exact blk_cell hc 0
    | 1, hu => simp at hu; subst hu; exact blk_cell hc 1
    | i + 2, hu => simp at hu
  | j + 1, hj => simp at hj
end
/-- What is known while 'Free, Bound = append(..), append(..)' is done: the two slices u and v, and the gas. -/
structure App (n0 base g : Nat) (vF vB u v : Value) (F B : List S32) (x y : S32) (mo : Int) (b : Nat → Bool) (a : Act) (w : World) : Prop where
  le : n0 ≤ w.heap.size
  gn : g < n0
  u0 : b 5 = false → u = vF
  u1 : b 5 = true → a.tmps[20]? = some u ∧ ((u.ownBlock = vF.ownBlock) ∨ ∃ k, u.ownBlock = some k ∧ n0 ≤ k)
  v0 : b 11 = false → v = vB
  v1 : b 11 = true → a.tmps[26]? = some v
  rF : RW w base u (if b 5 = true then F ++ [x] else F)
  rB : RW w base v (if b 11 = true then B ++ [y] else B)
  dis : Dis u v
  low : (∀ k, vF.ownBlock = some k → k < n0) ∧ (∀ k, vB.ownBlock = some k → k < n0)
  gF : ∀ k, u.ownBlock = some k → k ≠ g
  gB : ∀ k, v.ownBlock = some k → k ≠ g
  box : w.heap[g]? = some (.cells #[if b 13 = true then u else vF, if b 15 = true then v else vB, .slice none 0 0, .int .i64 mo, .bool false] 39 (0, 0))
def Apps (n0 base g : Nat) (vF vB : Value) (F B : List S32) (x y : S32) (mo : Int) (b : Nat → Bool) (a : Act) (w : World) : Prop := ∃ u v, App n0 base g vF vB u v F B x y mo b a w
section
variable {n0 base g : Nat} {vF vB : Value} {F B : List S32} {x y : S32} {mo : Int} {b : Nat → Bool} {a : Act} {w w' w2 : World}
theorem Apps.le (h : Apps n0 base g vF vB F B x y mo b a w) : n0 ≤ w.heap.size := by obtain ⟨u, v, h⟩ := h; exact h.le
theorem Apps.start (hF : RW w base vF F) (hB : RW w base vB B) (hd : Dis vF vB) (hg : w.heap[g]? = some (.cells #[vF, vB, .slice none 0 0, .int .i64 mo, .bool false] 39 (0, 0))) (hn : n0 = w.heap.size) :
    Apps n0 base g vF vB F B x y mo (fun _ => false) a w.drew := by
  have hbw := below_drew (Below.refl w.heap.size w)
  refine ⟨vF, vB, ⟨by rw [hn]; exact hbw.size, by rw [hn]; exact blk_lt hg, fun _ => rfl, (fun h => by cases h), fun _ => rfl, (fun h => by cases h), Kd.R_below hF hbw, Kd.R_below hB hbw, hd, ⟨?_, ?_⟩, ?_, ?_, blk_below hg hbw⟩⟩
  · rw [hn]; exact Kd.R_lt hF
  · rw [hn]; exact Kd.R_lt hB
  · exact fun k hk e => Kd.R_ne hF hg (by decide) (by rw [← e, hk])
  · exact fun k hk e => Kd.R_ne hB hg (by decide) (by rw [← e, hk])
theorem Apps.keep {s : Tmp} {i : Nat} {v' : Value} (h : Apps n0 base g vF vB F B x y mo b a w) (hb : Below w.heap.size w w') (h1 : s ≠ 20) (h2 : s ≠ 26) (h3 : 5 ≠ i) (h4 : 11 ≠ i) (h5 : 13 ≠ i) (h6 : 15 ≠ i) :
    Apps n0 base g vF vB F B x y mo (up b i) (a.put (some s) v') w' := by
  obtain ⟨u, v, h⟩ := h
  refine ⟨u, v, ⟨Nat.le_trans h.le hb.size, h.gn, ?_, ?_, ?_, ?_, ?_, ?_, h.dis, h.low, h.gF, h.gB, ?_⟩⟩
  · rw [up_ne h3]; exact h.u0
  · rw [up_ne h3, put_get, if_neg h1]; exact h.u1
  · rw [up_ne h4]; exact h.v0
  · rw [up_ne h4, put_get, if_neg h2]; exact h.v1
  · rw [up_ne h3]; exact Kd.R_below h.rF hb
  · rw [up_ne h4]; exact Kd.R_below h.rB hb
  · rw [up_ne h5, up_ne h6]; exact blk_below h.box hb
theorem Apps.row1 (h : Apps n0 base g vF vB F B x y mo b a w) (h5 : b 5 = false) (h11 : b 11 = false) (h13 : b 13 = false) (h15 : b 15 = false) : RW w base vF F ∧ ∀ k, vF.ownBlock = some k → k < n0 := by
  obtain ⟨u, v, h⟩ := h
  obtain rfl := h.u0 h5
  have := h.rF
  rw [h5] at this
  exact ⟨this, h.low.1⟩
theorem Apps.row2 (h : Apps n0 base g vF vB F B x y mo b a w) (h5 : b 5 = true) (h11 : b 11 = false) (h13 : b 13 = false) (h15 : b 15 = false) : RW w base vB B ∧ ∀ k, vB.ownBlock = some k → k < n0 := by
  obtain ⟨u, v, h⟩ := h
  obtain rfl := h.v0 h11
  have := h.rB
  rw [h11] at this
  exact ⟨this, h.low.2⟩
theorem Apps.app1 {v1 : Value} (h : Apps n0 base g vF vB F B x y mo b a w) (hs : 20 < a.tmps.size) (h5 : b 5 = false) (h11 : b 11 = false) (h13 : b 13 = false) (h15 : b 15 = false) (hR : RW w2 base v1 (F ++ [x])) (hg : w.grownBy w2 vF.ownBlock)
    (hat : v1.ownBlock = vF.ownBlock ∨ ∃ j, v1.ownBlock = some j ∧ w.heap.size ≤ j) : Apps n0 base g vF vB F B x y mo (up b 5) (a.put (some 20) v1) w2 := by
  obtain ⟨u, v, h⟩ := h
  obtain rfl := h.u0 h5
  obtain rfl := h.v0 h11
  have hB := h.rB
  rw [h11] at hB
  have hbx := h.box
  rw [h13, h15] at hbx
  refine ⟨v1, v, ⟨Nat.le_trans h.le hg.size, h.gn, (fun e => by rw [up_self] at e; cases e), ?_, fun _ => rfl, ?_, ?_, ?_, ?_, h.low, ?_, h.gB, ?_⟩⟩
  · intro _
    refine ⟨by rw [put_get, if_pos rfl, if_pos hs], ?_⟩
    rcases hat with hat | ⟨j, hj, hl⟩
    · exact .inl hat
    · exact .inr ⟨j, hj, Nat.le_trans h.le hl⟩
  · rw [up_ne (by decide), h11]; intro e; cases e
  · rw [up_self, if_pos rfl]; exact hR
  · rw [up_ne (by decide), h11]; exact RW.grown hB hg (fun k hk => h.dis k hk)
  · intro k hk e
    rcases hat with hat | ⟨j, hj, hl⟩
    · exact h.dis k (hat.symm.trans hk) e
    · rw [hj] at hk
      injection hk with hk
      subst hk
      have := Kd.R_lt hB j e.symm
      omega
  · intro k hk e
    rcases hat with hat | ⟨j, hj, hl⟩
    · exact h.gF k (hat.symm.trans hk) e
    · rw [hj] at hk
      injection hk with hk
      subst hk
      have := h.le
      have := h.gn
      omega
  · rw [up_ne (by decide), up_ne (by decide), h13, h15]
    exact blk_grown2 hg hbx (fun j hj e => h.gF j hj e.symm)
theorem Apps.app2 {v1 : Value} (h : Apps n0 base g vF vB F B x y mo b a w) (hs : 26 < a.tmps.size) (h5 : b 5 = true) (h11 : b 11 = false) (h13 : b 13 = false) (h15 : b 15 = false) (hR : RW w2 base v1 (B ++ [y])) (hg : w.grownBy w2 vB.ownBlock)
    (hat : v1.ownBlock = vB.ownBlock ∨ ∃ j, v1.ownBlock = some j ∧ w.heap.size ≤ j) : Apps n0 base g vF vB F B x y mo (up b 11) (a.put (some 26) v1) w2 := by
  obtain ⟨u, v, h⟩ := h
  obtain rfl := h.v0 h11
  have hF := h.rF
  have hbx := h.box
  rw [h13, h15] at hbx
  refine ⟨u, v1, ⟨Nat.le_trans h.le hg.size, h.gn, ?_, ?_, (fun e => by rw [up_self] at e; cases e), ?_, ?_, ?_, ?_, h.low, h.gF, ?_, ?_⟩⟩
  · rw [up_ne (by decide)]; exact h.u0
  · rw [up_ne (by decide), put_get, if_neg (by decide)]; exact h.u1
  · intro _; rw [put_get, if_pos rfl, if_pos hs]
  · rw [up_ne (by decide)]; exact RW.grown hF hg (fun k hk e => h.dis k e.symm hk.symm)
  · rw [up_self, if_pos rfl]; exact hR
  · intro k hk e
    rcases hat with hat | ⟨j, hj, hl⟩
    · exact h.dis k hk (e.trans hat)
    · rw [hj] at e
      injection e with e
      subst e
      have := Kd.R_lt hF k hk
      omega
  · intro k hk e
    rcases hat with hat | ⟨j, hj, hl⟩
    · exact h.gB k (hat.symm.trans hk) e
    · rw [hj] at hk
      injection hk with hk
      subst hk
      have := h.le
      have := h.gn
      omega
  · rw [up_ne (by decide), up_ne (by decide), h13, h15]
    exact blk_grown2 hg hbx (fun j hj e => h.gB j hj e.symm)
theorem Apps.val1 (h : Apps n0 base g vF vB F B x y mo b a w) (h5 : b 5 = true) : ∃ v1, a.tmps[20]? = some v1 := by obtain ⟨u, v, h⟩ := h; exact ⟨u, (h.u1 h5).1⟩
theorem Apps.val2 (h : Apps n0 base g vF vB F B x y mo b a w) (h11 : b 11 = true) : ∃ v1, a.tmps[26]? = some v1 := by obtain ⟨u, v, h⟩ := h; exact ⟨v, h.v1 h11⟩
theorem Apps.store1 {v1 : Value} (h : Apps n0 base g vF vB F B x y mo b a w) (h5 : b 5 = true) (h11 : b 11 = true) (h13 : b 13 = false) (h15 : b 15 = false) (hv : a.tmps[20]? = some v1) :
    ∃ cs, w.heap[g]? = some (.cells cs 39 (0, 0)) ∧ cs.size = 5 ∧ (v1.oneCell' = true ∧ v1.cells = #[v1] ∧ ∀ w2, w2.heap[g]? = some (.cells (cs.setIfInBounds 0 v1) 39 (0, 0)) → Only g w w2 → ∀ v', Apps n0 base g vF vB F B x y mo (up b 13) (a.put none v') w2) := by
  obtain ⟨u, v, h⟩ := h
  obtain rfl : u = v1 := Option.some.inj ((h.u1 h5).1.symm.trans hv)
  have hbx := h.box
  rw [h13, h15] at hbx
  refine ⟨_, hbx, rfl, ?_, ?_, fun w2 hb2 ho v' => ⟨u, v, ⟨by rw [ho.size]; exact h.le, h.gn, ?_, ?_, ?_, ?_, ?_, ?_, h.dis, h.low, h.gF, h.gB, ?_⟩⟩⟩
  · obtain ⟨A, c, e⟩ := Kd.R_slice h.rF; rw [e]; rfl
  · obtain ⟨A, c, e⟩ := Kd.R_slice h.rF; rw [e]; rfl
  · rw [up_ne (by decide)]; exact h.u0
  · rw [up_ne (by decide)]; exact h.u1
  · rw [up_ne (by decide)]; exact h.v0
  · rw [up_ne (by decide)]; exact h.v1
  · rw [up_ne (by decide)]; exact RW.only h.rF ho h.gF
  · rw [up_ne (by decide)]; exact RW.only h.rB ho h.gB
  · rw [up_self, up_ne (by decide), h15]; exact hb2
theorem Apps.store2 {v1 : Value} (h : Apps n0 base g vF vB F B x y mo b a w) (h5 : b 5 = true) (h11 : b 11 = true) (h13 : b 13 = true) (h15 : b 15 = false) (hv : a.tmps[26]? = some v1) :
    ∃ cs, w.heap[g]? = some (.cells cs 39 (0, 0)) ∧ cs.size = 5 ∧ (v1.oneCell' = true ∧ v1.cells = #[v1] ∧ ∀ w2, w2.heap[g]? = some (.cells (cs.setIfInBounds 1 v1) 39 (0, 0)) → Only g w w2 → ∀ v', Apps n0 base g vF vB F B x y mo (up b 15) (a.put none v') w2) := by
  obtain ⟨u, v, h⟩ := h
  obtain rfl : v = v1 := Option.some.inj ((h.v1 h11).symm.trans hv)
  have hbx := h.box
  rw [h13, h15] at hbx
  refine ⟨_, hbx, rfl, ?_, ?_, fun w2 hb2 ho v' => ⟨u, v, ⟨by rw [ho.size]; exact h.le, h.gn, ?_, ?_, ?_, ?_, ?_, ?_, h.dis, h.low, h.gF, h.gB, ?_⟩⟩⟩
  · obtain ⟨A, c, e⟩ := Kd.R_slice h.rB; rw [e]; rfl
  · obtain ⟨A, c, e⟩ := Kd.R_slice h.rB; rw [e]; rfl
  · rw [up_ne (by decide)]; exact h.u0
  · rw [up_ne (by decide)]; exact h.u1
  · rw [up_ne (by decide)]; exact h.v0
  · rw [up_ne (by decide)]; exact h.v1
  · rw [up_ne (by decide)]; exact RW.only h.rF ho h.gF
  · rw [up_ne (by decide)]; exact RW.only h.rB ho h.gB
  · rw [up_ne (by decide), up_self, h13]; exact hb2
end
/-- A block of the call's own that is no row. -/
def Junk (w w' : World) (j : Nat) : Prop := w.heap.size ≤ j ∧ ∃ cs t, w'.heap[j]? = some (.cells cs t (0, 0)) ∧ t ≠ 32
def Junks (w w' : World) : Prop := ∃ j1 j2 j3, Junk w w' j1 ∧ Junk w w' j2 ∧ Junk w w' j3 ∧ j1 ≠ j2 ∧ j1 ≠ j3 ∧ j2 ≠ j3
def begF : List S36 → List S32 → List S32 → Int → List S32 × List S32 × Int
  | [], F, B, m => (F, B, m)
  | v :: l, F, B, m => begF l (F ++ [v.f1]) (B ++ [v.f2]) (wrap64 (m + wrap64 (v.f1.f1 + v.f2.f1)))
def begR : List S142 → List S32 → List S32
  | [], R => R
  | t :: l, R => begR l (R ++ [t.f2])
set_option maxHeartbeats 8000000 in
set_option maxRecDepth 100000 in
theorem begun_any (l0 : List S36) (l1 : List S138) (l2 : List S112) (l3 : List S140) (l4 : List S142) (A0 A1 A2 A3 A4 : Option Addr) (c0 c1 c2 c3 c4 : Nat) (w : World)
    (hr0 : Kd.C k36 w A0 l0.length l0) (hr4 : Kd.C k142 w A4 l4.length l4) (hc0 : l0.length ≤ c0) (hc4 : l4.length ≤ c4) (hm0 : l0.length ≤ 8) (hm4 : l4.length ≤ 8) :
    Calls Try.prog 84 #[.agg #[.slice A0 l0.length c0, .slice A1 l1.length c1, .slice A2 l2.length c2, .slice A3 l3.length c3, .slice A4 l4.length c4]] w fun e w' => ∃ vF vB vR, e = .returned (.agg #[vF, vB, vR, .int .i64 (begF l0 [] [] 0).2.2, .bool false]) ∧ RW w' w.heap.size vF (begF l0 [] [] 0).1 ∧ RW w' w.heap.size vB (begF l0 [] [] 0).2.1 ∧ RW w' w.heap.size vR (begR l4 []) ∧ Dis vF vB ∧ Dis vF vR ∧ Dis vB vR ∧ Below w.heap.size w w' ∧ Junks w w' := by
  have HR0 := Aside0.mk hr0
  have HR4 := Aside0.mk hr4
  have HC0 := Aside0.mk hc0
  have HC4 := Aside0.mk hc4
  have HM0 := Aside0.mk hm0
  have HM4 := Aside0.mk hm4
  clear hr0 hr4 hc0 hc4 hm0 hm4
  have HB := Aside0.mk (Below.refl w.heap.size w)
  go_enter Try.func84, Try.ntmps84
  go_wp2_with (first | ((with_reducible refine gate_dst (N := 1) rfl ?_); go_must (refine box_ev (N := 1) (cs := #[.slice A0 l0.length c0, .slice A1 l1.length c1, .slice A2 l2.length c2, .slice A3 l3.length c3, .slice A4 l4.length c4]) (t := 29) (h := ?_); intro p1 hgp1 w1 hbox hb; have GEp1 := ge_new HB hgp1; replace HB := bel_b hb HB; have Bp1 := Aside0.mk hbox; clear hbox; obtain ⟨cp1_0, cp1_1, cp1_2, cp1_3, cp1_4⟩ := cells5 Bp1.out; (try clear hb); clear hgp1)) | ((with_reducible refine gate_dst (N := 2) rfl ?_); go_must (refine box_ev (N := 2) (cs := #[.slice none 0 0, .slice none 0 0, .slice none 0 0, .int .i64 0, .bool false]) (t := 39) (h := ?_); intro p2 hgp2 w2 hbox hb; have GEp2 := ge_new HB hgp2; have N_p1_p2 := ne_new Bp1 hgp2; replace HB := bel_b hb HB; replace Bp1 := blk_b hb Bp1; (try clear cp1_0 cp1_1 cp1_2 cp1_3 cp1_4); obtain ⟨cp1_0, cp1_1, cp1_2, cp1_3, cp1_4⟩ := cells5 Bp1.out; have Bp2 := Aside0.mk hbox; clear hbox; obtain ⟨cp2_0, cp2_1, cp2_2, cp2_3, cp2_4⟩ := cells5 Bp2.out; (try clear hb); clear hgp2)) | ((with_reducible refine gate_dst (N := 3) rfl ?_); go_must (refine box_ev (N := 3) (cs := #[.slice none 0 0, .slice none 0 0, .slice none 0 0, .int .i64 0, .bool false]) (t := 39) (h := ?_); intro g hgg w3 hbox hb; have GEg := ge_new HB hgg; have N_p1_g := ne_new Bp1 hgg; have N_p2_g := ne_new Bp2 hgg; replace HB := bel_b hb HB; replace Bp1 := blk_b hb Bp1; (try clear cp1_0 cp1_1 cp1_2 cp1_3 cp1_4); obtain ⟨cp1_0, cp1_1, cp1_2, cp1_3, cp1_4⟩ := cells5 Bp1.out; replace Bp2 := blk_b hb Bp2; (try clear cp2_0 cp2_1 cp2_2 cp2_3 cp2_4); obtain ⟨cp2_0, cp2_1, cp2_2, cp2_3, cp2_4⟩ := cells5 Bp2.out; have Bg := Aside0.mk hbox; clear hbox; obtain ⟨cg_0, cg_1, cg_2, cg_3, cg_4⟩ := cells5 Bg.out; (try clear hb); clear hgg)))
  (try clear cp1_0 cp1_1 cp1_2 cp1_3 cp1_4); (try clear cp2_0 cp2_1 cp2_2 cp2_3 cp2_4); (try clear cg_0 cg_1 cg_2 cg_3 cg_4)
  go_loopg [11] (l0.length) (fun k v11 w' => ∃ (i mo : Int) (vF vB : Value) (F' B' : List S32), 0 ≤ i ∧ k = l0.length - i.toNat ∧ i ≤ l0.length ∧ v11 = .int .i64 i ∧ F'.length = i.toNat ∧ B'.length = i.toNat ∧ Aside0 (begF l0 [] [] 0 = begF (l0.drop i.toNat) F' B' mo) ∧ Aside0 (Dis vF vB) ∧ Aside0 (w'.heap[p1]? = some (.cells #[.slice A0 l0.length c0, .slice A1 l1.length c1, .slice A2 l2.length c2, .slice A3 l3.length c3, .slice A4 l4.length c4] 29 (0, 0))) ∧ Aside0 (w'.heap[p2]? = some (.cells #[.slice none 0 0, .slice none 0 0, .slice none 0 0, .int .i64 0, .bool false] 39 (0, 0))) ∧ Aside0 (w'.heap[g]? = some (.cells #[vF, vB, .slice none 0 0, .int .i64 mo, .bool false] 39 (0, 0))) ∧ Aside0 (RW w' w.heap.size vF F') ∧ Aside0 (RW w' w.heap.size vB B') ∧ Aside0 (Below w.heap.size w w'))
  case atStart => exact ⟨0, 0, _, _, [], [], by omega, by simp, by omega, rfl, rfl, rfl, ⟨by simp⟩, ⟨fun k_ hk_ => by simp [Value.ownBlock] at hk_⟩, ⟨Bp1.out⟩, ⟨Bp2.out⟩, ⟨Bg.out⟩, ⟨Kd.R_nil _ _ _ _ _⟩, ⟨Kd.R_nil _ _ _ _ _⟩, ⟨(bel_r HB)⟩⟩
  case round =>
    clear Bp1 Bp2 Bg HB
    obtain ⟨i, mo, vF, vB, F', B', hi0, hn, hi, rfl, hlF, hlB, HE, HDis, Bp1, Bp2, Bg, BvF, BvB, HB⟩ := hrel
    have Hn := Aside0.mk hn
    clear hn
    obtain ⟨cp1_0, cp1_1, cp1_2, cp1_3, cp1_4⟩ := cells5 Bp1.out; obtain ⟨cp2_0, cp2_1, cp2_2, cp2_3, cp2_4⟩ := cells5 Bp2.out
    by_cases hi' : i < l0.length
    · obtain ⟨AF, cF, rfl⟩ := Kd.R_slice BvF.out
      obtain ⟨AB, cB, rfl⟩ := Kd.R_slice BvB.out
      obtain ⟨cg_0, cg_1, cg_2, cg_3, cg_4⟩ := cells5 Bg.out
      have HD : Aside0 (l0.drop i.toNat = (rd_T36 l0 i) :: l0.drop (i + 1).toNat) := ⟨by
        rw [show (i + 1).toNat = i.toNat + 1 by omega, List.drop_eq_getElem_cons (by omega)]; unfold rd_T36; simp [List.getD_eq_getElem?_getD, List.getElem?_eq_getElem (show i.toNat < l0.length by omega)]⟩
      have hm3 := HM0.out
      have HL5 : Aside0 (F'.length ≤ 8 ∧ B'.length ≤ 8) := ⟨by omega⟩
      have HLL : Aside0 (F'.length = i.toNat ∧ B'.length = i.toNat) := ⟨⟨hlF, hlB⟩⟩
      clear hlF hlB
      obtain ⟨ad, A5, c5, had, k0, k1, k2, k3, k4, k5, hc5, hr5⟩ := at_T36 HR0.out i hi0 hi'
      replace k0 := pw_cell_below HB.out k0
      replace k1 := pw_cell_below HB.out k1
      replace k2 := pw_cell_below HB.out k2
      replace k3 := pw_cell_below HB.out k3
      replace k4 := pw_cell_below HB.out k4
      replace k5 := pw_cell_below HB.out k5
      clear hc5 hr5
      cases had
      go_wp2_with (first | ((with_reducible refine gate_dst (N := 5) rfl ?_); go_must (refine box_ev (N := 5) (cs := #[.int .i64 0, .int .i64 0, .int .i64 0, .int .i64 0, .int .i64 0, .slice none 0 0]) (t := 36) (h := ?_); intro p5 hgp5 w5 hbox hb; have GEp5 := ge_new HB hgp5; have N_p1_p5 := ne_new Bp1 hgp5; have N_p2_p5 := ne_new Bp2 hgp5; have N_g_p5 := ne_new Bg hgp5; have N_vF_p5 := rw_new BvF hgp5; have N_vB_p5 := rw_new BvB hgp5; replace HB := bel_b hb HB; replace Bp1 := blk_b hb Bp1; (try clear cp1_0 cp1_1 cp1_2 cp1_3 cp1_4); obtain ⟨cp1_0, cp1_1, cp1_2, cp1_3, cp1_4⟩ := cells5 Bp1.out; replace Bp2 := blk_b hb Bp2; (try clear cp2_0 cp2_1 cp2_2 cp2_3 cp2_4); obtain ⟨cp2_0, cp2_1, cp2_2, cp2_3, cp2_4⟩ := cells5 Bp2.out; replace Bg := blk_b hb Bg; (try clear cg_0 cg_1 cg_2 cg_3 cg_4); obtain ⟨cg_0, cg_1, cg_2, cg_3, cg_4⟩ := cells5 Bg.out; replace BvF := rw_b hb BvF; replace BvB := rw_b hb BvB; have Bp5 := Aside0.mk hbox; clear hbox; obtain ⟨cp5_0, cp5_1, cp5_2, cp5_3, cp5_4, cp5_5⟩ := cells6 Bp5.out; (try clear hb); clear hgp5)) | ((with_reducible refine gate_store (t := 36) (p := 5) rfl ?_); go_must (refine row_ev p5 #[.int .i64 (rd_T36 l0 i).f0, .int .i64 (rd_T36 l0 i).f1.f0, .int .i64 (rd_T36 l0 i).f1.f1, .int .i64 (rd_T36 l0 i).f2.f0, .int .i64 (rd_T36 l0 i).f2.f1, .slice A5 (rd_T36 l0 i).f3.length c5] Bp5.out (h := ?_); intro w6 hbox ho_; replace HB := bel_o ho_ HB GEp5; replace Bp1 := blk_o ho_ Bp1 (by first | exact N_p1_p5.out | exact N_p5_p1.out.symm); (try clear cp1_0 cp1_1 cp1_2 cp1_3 cp1_4); obtain ⟨cp1_0, cp1_1, cp1_2, cp1_3, cp1_4⟩ := cells5 Bp1.out; replace Bp2 := blk_o ho_ Bp2 (by first | exact N_p2_p5.out | exact N_p5_p2.out.symm); (try clear cp2_0 cp2_1 cp2_2 cp2_3 cp2_4); obtain ⟨cp2_0, cp2_1, cp2_2, cp2_3, cp2_4⟩ := cells5 Bp2.out; replace Bg := blk_o ho_ Bg (by first | exact N_g_p5.out | exact N_p5_g.out.symm); (try clear cg_0 cg_1 cg_2 cg_3 cg_4); obtain ⟨cg_0, cg_1, cg_2, cg_3, cg_4⟩ := cells5 Bg.out; replace BvF := rw_o ho_ BvF (by first | exact N_vF_p5.out | exact N_p5_vF.out.symm); replace BvB := rw_o ho_ BvB (by first | exact N_vB_p5.out | exact N_p5_vB.out.symm); replace Bp5 := Aside0.mk hbox; clear hbox ho_; (try clear cp5_0 cp5_1 cp5_2 cp5_3 cp5_4 cp5_5); obtain ⟨cp5_0, cp5_1, cp5_2, cp5_3, cp5_4, cp5_5⟩ := cells6 Bp5.out; )))
      obtain ⟨n0, hn0⟩ : ∃ n, n = w6.heap.size := ⟨_, rfl⟩
      have HN0 : Aside0 (g < n0) := ⟨by rw [hn0]; exact blk_lt Bg.out⟩
      (try clear cp1_0 cp1_1 cp1_2 cp1_3 cp1_4); (try clear cp2_0 cp2_1 cp2_2 cp2_3 cp2_4); (try clear cp5_0 cp5_1 cp5_2 cp5_3 cp5_4 cp5_5); (try clear cg_0 cg_1 cg_2 cg_3 cg_4)
      refine region_ria (n := 16) (B := [0, 1, 0, 4, 12, 31, 0, 64, 0, 256, 768, 2047, 255, 8191, 16383, 32767]) (fun o_ => match o_ with | 0 => some 15 | 1 => some 16 | 2 => some 17 | 3 => some 18 | 4 => some 19 | 5 => some 20 | 6 => some 21 | 7 => some 22 | 8 => some 23 | 9 => some 24 | 10 => some 25 | 11 => some 26 | 12 => some 27 | 13 => none | 14 => some 28 | 15 => none | _ => none) (fun o_ q_ w' => match o_ with | 0 => q_ = .pointer (some ⟨g, 0, none⟩) | 1 => q_ = .slice AF F'.length cF | 2 => q_ = .pointer (some ⟨p5, 1, none⟩) | 3 => q_ = .agg #[.int .i64 (rd_T36 l0 i).f1.f0, .int .i64 (rd_T36 l0 i).f1.f1] | 4 => (∃ g_, q_ = .slice (some ⟨g_, 0, none⟩) 1 1 ∧ n0 ≤ g_ ∧ w'.heap[g_]? = some (.cells #[.int .i64 (rd_T36 l0 i).f1.f0, .int .i64 (rd_T36 l0 i).f1.f1] 32 (0, 0))) | 5 => True | 6 => q_ = .pointer (some ⟨g, 1, none⟩) | 7 => q_ = .slice AB B'.length cB | 8 => q_ = .pointer (some ⟨p5, 3, none⟩) | 9 => q_ = .agg #[.int .i64 (rd_T36 l0 i).f2.f0, .int .i64 (rd_T36 l0 i).f2.f1] | 10 => (∃ g_, q_ = .slice (some ⟨g_, 0, none⟩) 1 1 ∧ n0 ≤ g_ ∧ w'.heap[g_]? = some (.cells #[.int .i64 (rd_T36 l0 i).f2.f0, .int .i64 (rd_T36 l0 i).f2.f1] 32 (0, 0))) | 11 => True | 12 => q_ = .pointer (some ⟨g, 0, none⟩) | 14 => q_ = .pointer (some ⟨g, 1, none⟩) | _ => True) (fun b a w' => Aside0 (w'.heap[p1]? = some (.cells #[.slice (some ad) l0.length c0, .slice A1 l1.length c1, .slice A2 l2.length c2, .slice A3 l3.length c3, .slice A4 l4.length c4] 29 (0, 0))) ∧ Aside0 (w'.heap[p2]? = some (.cells #[.slice none 0 0, .slice none 0 0, .slice none 0 0, .int .i64 0, .bool false] 39 (0, 0))) ∧ Aside0 (w'.heap[p5]? = some (.cells #[.int .i64 (rd_T36 l0 i).f0, .int .i64 (rd_T36 l0 i).f1.f0, .int .i64 (rd_T36 l0 i).f1.f1, .int .i64 (rd_T36 l0 i).f2.f0, .int .i64 (rd_T36 l0 i).f2.f1, .slice A5 (rd_T36 l0 i).f3.length c5] 36 (0, 0))) ∧ Aside0 (Below w.heap.size w w') ∧ Aside0 (Apps n0 w.heap.size g (.slice AF F'.length cF) (.slice AB B'.length cB) F' B' (rd_T36 l0 i).f1 (rd_T36 l0 i).f2 mo b a w')) rfl rfl (by kernel_rfl) (by kernel_rfl) (by kernel_rfl) ⟨⟨blk_below (Bp1.out) (below_drew (Below.refl _ _))⟩, ⟨blk_below (Bp2.out) (below_drew (Below.refl _ _))⟩, ⟨blk_below (Bp5.out) (below_drew (Below.refl _ _))⟩, ⟨below_drew ((bel_r HB))⟩, ⟨Apps.start ((R_r BvF)) ((R_r BvB)) HDis.out (Bg.out) hn0⟩⟩ ?_ ?_
      · intro o_ hi
        match o_, hi with
        | 0, _ =>
          intro b a wq hI hbi_ hb_ hoff_
          have e3 : a.eval (.tmp 3) = .pointer (some ⟨g, 0, none⟩) := hI.old 3 (by decide) rfl
          have s3 := sv_ e3
          have hJ := hI.j
          obtain ⟨qp1, qp2, qp5, HBq, qA⟩ := hJ
          obtain ⟨cp5_0, cp5_1, cp5_2, cp5_3, cp5_4, cp5_5⟩ := cells6 qp5.out
          exact op_keepA hI (i := 0) ⟨qp1, qp2, qp5, HBq, ⟨Apps.keep qA.out (Below.refl _ _) (by decide) (by decide) (by decide) (by decide) (by decide) (by decide)⟩⟩ (hrun := gs_)
        | 1, _ =>
          intro b a wq hI hbi_ hb_ hoff_
          have e15 := hI.new 15 0 (by decide) (hb_ 0 (by decide)) rfl fun _ h => h
          have s15 := sv_ e15
          have hJ := hI.j
          obtain ⟨qp1, qp2, qp5, HBq, qA⟩ := hJ
          obtain ⟨cp5_0, cp5_1, cp5_2, cp5_3, cp5_4, cp5_5⟩ := cells6 qp5.out
          refine ⟨_, rfl, rfl, fun K hK => ?_⟩
          obtain ⟨u_, v_, hA_⟩ := qA.out
          have hc_ := blk_cell hA_.box 0
          simp only [show b 13 = false from hoff_ 13 (by decide), show b 15 = false from hoff_ 15 (by decide), Bool.false_eq_true, if_false] at hc_
          replace hc_ := hc_.trans (show _ = some (.slice AF F'.length cF) from rfl)
          refine value_ (N := some 16) rfl rfl (v := .slice AF F'.length cF) (w1 := wq) gs_ (hK _ _ ⟨qp1, qp2, qp5, HBq, ⟨Apps.keep qA.out (Below.refl _ _) (by decide) (by decide) (by decide) (by decide) (by decide) (by decide)⟩⟩ (fun _ _ h => h) rfl)
        | 2, _ =>
          intro b a wq hI hbi_ hb_ hoff_
          have e5 : a.eval (.tmp 5) = .pointer (some ⟨p5, 0, none⟩) := hI.old 5 (by decide) rfl
          have s5 := sv_ e5
          have hJ := hI.j
          obtain ⟨qp1, qp2, qp5, HBq, qA⟩ := hJ
          obtain ⟨cp5_0, cp5_1, cp5_2, cp5_3, cp5_4, cp5_5⟩ := cells6 qp5.out
          exact op_keepA hI (i := 2) ⟨qp1, qp2, qp5, HBq, ⟨Apps.keep qA.out (Below.refl _ _) (by decide) (by decide) (by decide) (by decide) (by decide) (by decide)⟩⟩ (hrun := gs_)
        | 3, _ =>
          intro b a wq hI hbi_ hb_ hoff_
          have e17 := hI.new 17 2 (by decide) (hb_ 2 (by decide)) rfl fun _ h => h
          have s17 := sv_ e17
          have hJ := hI.j
          obtain ⟨qp1, qp2, qp5, HBq, qA⟩ := hJ
          obtain ⟨cp5_0, cp5_1, cp5_2, cp5_3, cp5_4, cp5_5⟩ := cells6 qp5.out
          exact op_keepA hI (i := 3) ⟨qp1, qp2, qp5, HBq, ⟨Apps.keep qA.out (Below.refl _ _) (by decide) (by decide) (by decide) (by decide) (by decide) (by decide)⟩⟩ (hrun := gs_)
        | 4, _ =>
          intro b a wq hI hbi_ hb_ hoff_
          have e18 := hI.new 18 3 (by decide) (hb_ 3 (by decide)) rfl fun _ h => h
          have s18 := sv_ e18
          have hJ := hI.j
          obtain ⟨qp1, qp2, qp5, HBq, qA⟩ := hJ
          obtain ⟨cp5_0, cp5_1, cp5_2, cp5_3, cp5_4, cp5_5⟩ := cells6 qp5.out
          refine ⟨_, rfl, rfl, fun K hK => ?_⟩
          refine value_ (N := some 19) rfl rfl (v := .slice (some ⟨wq.heap.size, 0, none⟩) 1 1) (w1 := wq.alloc (.cells #[.int .i64 (rd_T36 l0 i).f1.f0, .int .i64 (rd_T36 l0 i).f1.f1] 32)) gs_ (hK _ _ ⟨⟨blk_below qp1.out (below_alloc (Below.refl _ _) _)⟩, ⟨blk_below qp2.out (below_alloc (Below.refl _ _) _)⟩, ⟨blk_below qp5.out (below_alloc (Below.refl _ _) _)⟩, ⟨below_step HBq.out (below_alloc (Below.refl _ _) _)⟩, ⟨Apps.keep qA.out (below_alloc (Below.refl _ _) _) (by decide) (by decide) (by decide) (by decide) (by decide) (by decide)⟩⟩ (fun k u hk => by revert hk; match k with | 0 => exact id | 1 => exact id | 2 => exact id | 3 => exact id | 4 => exact (fun ⟨g_, h1_, h2_, h3_⟩ => ⟨g_, h1_, h2_, blk_below h3_ (below_alloc (Below.refl _ _) _)⟩) | 5 => exact id | 6 => exact id | 7 => exact id | 8 => exact id | 9 => exact id | 10 => exact (fun ⟨g_, h1_, h2_, h3_⟩ => ⟨g_, h1_, h2_, blk_below h3_ (below_alloc (Below.refl _ _) _)⟩) | 11 => exact id | 12 => exact id | 13 => exact id | 14 => exact id | 15 => exact id | k + 16 => exact id) ⟨_, rfl, Apps.le qA.out, heap_alloc_new wq _⟩)
        | 5, _ =>
          intro b a wq hI hbi_ hb_ hoff_
          have e16 := hI.new 16 1 (by decide) (hb_ 1 (by decide)) rfl fun _ h => h
          have s16 := sv_ e16
          have hJ := hI.j
          obtain ⟨qp1, qp2, qp5, HBq, qA⟩ := hJ
          obtain ⟨cp5_0, cp5_1, cp5_2, cp5_3, cp5_4, cp5_5⟩ := cells6 qp5.out
          refine ⟨_, rfl, rfl, fun K hK => ?_⟩
          obtain ⟨y_, hy_, g_, rfl, hg_, hc_⟩ := hI.t 4 19 (by decide) (hb_ 4 (by decide)) rfl
          have e19 := eval_of hy_
          obtain ⟨hR_, hl_⟩ := Apps.row1 qA.out (hbi_) (hoff_ 11 (by decide)) (hoff_ 13 (by decide)) (hoff_ 15 (by decide))
          refine Kd.R_append_rows_step (P := Try.prog) k32 (Rr := k32.K wq) (w0 := w) w.heap.size rfl (.tmp 16) (.tmp 19) 37 32 (.agg #[(.int .i64 0), (.int .i64 0)]) 16 rfl Try.underlying37 info32 rfl (by decide) (by omega) (.slice AF F'.length cF) F' [((rd_T36 l0 i).f1 : S32)] (some ⟨g_, 0, none⟩) 1 1 (fun _ => True) (fun k_ => some k_ ≠ (Value.ownBlock (.slice AF F'.length cF))) e16 e19 hR_ (reads_one hc_) (fun x cs hk => by obtain rfl := k32_open hk; exact k32_mkM _ _ _ _) (fun k_ hk => ⟨trivial, hk⟩) (fun _ _ => trivial) HBq.out HBq.out.size (by have := HL5.out; omega) ?_
          intro v1 w2 hR2_ hb2_ hg2_ hat_
          refine hK _ _ ⟨⟨blk_grown2 hg2_ qp1.out (fun k_ hk_ e_ => RW.ne hR_ qp1.out (by decide) (by rw [e_, hk_]))⟩, ⟨blk_grown2 hg2_ qp2.out (fun k_ hk_ e_ => RW.ne hR_ qp2.out (by decide) (by rw [e_, hk_]))⟩, ⟨blk_grown2 hg2_ qp5.out (fun k_ hk_ e_ => RW.ne hR_ qp5.out (by decide) (by rw [e_, hk_]))⟩, ⟨hb2_⟩, ⟨Apps.app1 qA.out (by rw [hI.size]; show (20 : Nat) < 57; decide) (hbi_) (hoff_ 11 (by decide)) (hoff_ 13 (by decide)) (hoff_ 15 (by decide)) hR2_ hg2_ hat_⟩⟩ (fun k u hk => by revert hk; match k with | 0 => exact id | 1 => exact id | 2 => exact id | 3 => exact id | 4 => exact (fun ⟨g_, h1_, h2_, h3_⟩ => ⟨g_, h1_, h2_, blk_grown2 hg2_ h3_ (fun k_ hk_ e_ => by have := hl_ k_ hk_; omega)⟩) | 5 => exact id | 6 => exact id | 7 => exact id | 8 => exact id | 9 => exact id | 10 => exact (fun ⟨g_, h1_, h2_, h3_⟩ => ⟨g_, h1_, h2_, blk_grown2 hg2_ h3_ (fun k_ hk_ e_ => by have := hl_ k_ hk_; omega)⟩) | 11 => exact id | 12 => exact id | 13 => exact id | 14 => exact id | 15 => exact id | k + 16 => exact id) trivial
        | 6, _ =>
          intro b a wq hI hbi_ hb_ hoff_
          have e3 : a.eval (.tmp 3) = .pointer (some ⟨g, 0, none⟩) := hI.old 3 (by decide) rfl
          have s3 := sv_ e3
          have hJ := hI.j
          obtain ⟨qp1, qp2, qp5, HBq, qA⟩ := hJ
          obtain ⟨cp5_0, cp5_1, cp5_2, cp5_3, cp5_4, cp5_5⟩ := cells6 qp5.out
          exact op_keepA hI (i := 6) ⟨qp1, qp2, qp5, HBq, ⟨Apps.keep qA.out (Below.refl _ _) (by decide) (by decide) (by decide) (by decide) (by decide) (by decide)⟩⟩ (hrun := gs_)
        | 7, _ =>
          intro b a wq hI hbi_ hb_ hoff_
          have e21 := hI.new 21 6 (by decide) (hb_ 6 (by decide)) rfl fun _ h => h
          have s21 := sv_ e21
          have hJ := hI.j
          obtain ⟨qp1, qp2, qp5, HBq, qA⟩ := hJ
          obtain ⟨cp5_0, cp5_1, cp5_2, cp5_3, cp5_4, cp5_5⟩ := cells6 qp5.out
          refine ⟨_, rfl, rfl, fun K hK => ?_⟩
          obtain ⟨u_, v_, hA_⟩ := qA.out
          have hc_ := blk_cell hA_.box 1
          simp only [show b 13 = false from hoff_ 13 (by decide), show b 15 = false from hoff_ 15 (by decide), Bool.false_eq_true, if_false] at hc_
          replace hc_ := hc_.trans (show _ = some (.slice AB B'.length cB) from rfl)
          refine value_ (N := some 22) rfl rfl (v := .slice AB B'.length cB) (w1 := wq) gs_ (hK _ _ ⟨qp1, qp2, qp5, HBq, ⟨Apps.keep qA.out (Below.refl _ _) (by decide) (by decide) (by decide) (by decide) (by decide) (by decide)⟩⟩ (fun _ _ h => h) rfl)
        | 8, _ =>
          intro b a wq hI hbi_ hb_ hoff_
          have e5 : a.eval (.tmp 5) = .pointer (some ⟨p5, 0, none⟩) := hI.old 5 (by decide) rfl
          have s5 := sv_ e5
          have hJ := hI.j
          obtain ⟨qp1, qp2, qp5, HBq, qA⟩ := hJ
          obtain ⟨cp5_0, cp5_1, cp5_2, cp5_3, cp5_4, cp5_5⟩ := cells6 qp5.out
          exact op_keepA hI (i := 8) ⟨qp1, qp2, qp5, HBq, ⟨Apps.keep qA.out (Below.refl _ _) (by decide) (by decide) (by decide) (by decide) (by decide) (by decide)⟩⟩ (hrun := gs_)
        | 9, _ =>
          intro b a wq hI hbi_ hb_ hoff_
          have e23 := hI.new 23 8 (by decide) (hb_ 8 (by decide)) rfl fun _ h => h
          have s23 := sv_ e23
          have hJ := hI.j
          obtain ⟨qp1, qp2, qp5, HBq, qA⟩ := hJ
          obtain ⟨cp5_0, cp5_1, cp5_2, cp5_3, cp5_4, cp5_5⟩ := cells6 qp5.out
          exact op_keepA hI (i := 9) ⟨qp1, qp2, qp5, HBq, ⟨Apps.keep qA.out (Below.refl _ _) (by decide) (by decide) (by decide) (by decide) (by decide) (by decide)⟩⟩ (hrun := gs_)
        | 10, _ =>
          intro b a wq hI hbi_ hb_ hoff_
          have e24 := hI.new 24 9 (by decide) (hb_ 9 (by decide)) rfl fun _ h => h
          have s24 := sv_ e24
          have hJ := hI.j
          obtain ⟨qp1, qp2, qp5, HBq, qA⟩ := hJ
          obtain ⟨cp5_0, cp5_1, cp5_2, cp5_3, cp5_4, cp5_5⟩ := cells6 qp5.out
          refine ⟨_, rfl, rfl, fun K hK => ?_⟩
          refine value_ (N := some 25) rfl rfl (v := .slice (some ⟨wq.heap.size, 0, none⟩) 1 1) (w1 := wq.alloc (.cells #[.int .i64 (rd_T36 l0 i).f2.f0, .int .i64 (rd_T36 l0 i).f2.f1] 32)) gs_ (hK _ _ ⟨⟨blk_below qp1.out (below_alloc (Below.refl _ _) _)⟩, ⟨blk_below qp2.out (below_alloc (Below.refl _ _) _)⟩, ⟨blk_below qp5.out (below_alloc (Below.refl _ _) _)⟩, ⟨below_step HBq.out (below_alloc (Below.refl _ _) _)⟩, ⟨Apps.keep qA.out (below_alloc (Below.refl _ _) _) (by decide) (by decide) (by decide) (by decide) (by decide) (by decide)⟩⟩ (fun k u hk => by revert hk; match k with | 0 => exact id | 1 => exact id | 2 => exact id | 3 => exact id | 4 => exact (fun ⟨g_, h1_, h2_, h3_⟩ => ⟨g_, h1_, h2_, blk_below h3_ (below_alloc (Below.refl _ _) _)⟩) | 5 => exact id | 6 => exact id | 7 => exact id | 8 => exact id | 9 => exact id | 10 => exact (fun ⟨g_, h1_, h2_, h3_⟩ => ⟨g_, h1_, h2_, blk_below h3_ (below_alloc (Below.refl _ _) _)⟩) | 11 => exact id | 12 => exact id | 13 => exact id | 14 => exact id | 15 => exact id | k + 16 => exact id) ⟨_, rfl, Apps.le qA.out, heap_alloc_new wq _⟩)
        | 11, _ =>
          intro b a wq hI hbi_ hb_ hoff_
          have e22 := hI.new 22 7 (by decide) (hb_ 7 (by decide)) rfl fun _ h => h
          have s22 := sv_ e22
          have hJ := hI.j
          obtain ⟨qp1, qp2, qp5, HBq, qA⟩ := hJ
          obtain ⟨cp5_0, cp5_1, cp5_2, cp5_3, cp5_4, cp5_5⟩ := cells6 qp5.out
          refine ⟨_, rfl, rfl, fun K hK => ?_⟩
          obtain ⟨y_, hy_, g_, rfl, hg_, hc_⟩ := hI.t 10 25 (by decide) (hb_ 10 (by decide)) rfl
          have e25 := eval_of hy_
          obtain ⟨hR_, hl_⟩ := Apps.row2 qA.out (hb_ 5 (by decide)) (hbi_) (hoff_ 13 (by decide)) (hoff_ 15 (by decide))
          refine Kd.R_append_rows_step (P := Try.prog) k32 (Rr := k32.K wq) (w0 := w) w.heap.size rfl (.tmp 22) (.tmp 25) 37 32 (.agg #[(.int .i64 0), (.int .i64 0)]) 16 rfl Try.underlying37 info32 rfl (by decide) (by omega) (.slice AB B'.length cB) B' [((rd_T36 l0 i).f2 : S32)] (some ⟨g_, 0, none⟩) 1 1 (fun _ => True) (fun k_ => some k_ ≠ (Value.ownBlock (.slice AB B'.length cB))) e22 e25 hR_ (reads_one hc_) (fun x cs hk => by obtain rfl := k32_open hk; exact k32_mkM _ _ _ _) (fun k_ hk => ⟨trivial, hk⟩) (fun _ _ => trivial) HBq.out HBq.out.size (by have := HL5.out; omega) ?_
          intro v1 w2 hR2_ hb2_ hg2_ hat_
          refine hK _ _ ⟨⟨blk_grown2 hg2_ qp1.out (fun k_ hk_ e_ => RW.ne hR_ qp1.out (by decide) (by rw [e_, hk_]))⟩, ⟨blk_grown2 hg2_ qp2.out (fun k_ hk_ e_ => RW.ne hR_ qp2.out (by decide) (by rw [e_, hk_]))⟩, ⟨blk_grown2 hg2_ qp5.out (fun k_ hk_ e_ => RW.ne hR_ qp5.out (by decide) (by rw [e_, hk_]))⟩, ⟨hb2_⟩, ⟨Apps.app2 qA.out (by rw [hI.size]; show (26 : Nat) < 57; decide) (hb_ 5 (by decide)) (hbi_) (hoff_ 13 (by decide)) (hoff_ 15 (by decide)) hR2_ hg2_ hat_⟩⟩ (fun k u hk => by revert hk; match k with | 0 => exact id | 1 => exact id | 2 => exact id | 3 => exact id | 4 => exact (fun ⟨g_, h1_, h2_, h3_⟩ => ⟨g_, h1_, h2_, blk_grown2 hg2_ h3_ (fun k_ hk_ e_ => by have := hl_ k_ hk_; omega)⟩) | 5 => exact id | 6 => exact id | 7 => exact id | 8 => exact id | 9 => exact id | 10 => exact (fun ⟨g_, h1_, h2_, h3_⟩ => ⟨g_, h1_, h2_, blk_grown2 hg2_ h3_ (fun k_ hk_ e_ => by have := hl_ k_ hk_; omega)⟩) | 11 => exact id | 12 => exact id | 13 => exact id | 14 => exact id | 15 => exact id | k + 16 => exact id) trivial
        | 12, _ =>
          intro b a wq hI hbi_ hb_ hoff_
          have e3 : a.eval (.tmp 3) = .pointer (some ⟨g, 0, none⟩) := hI.old 3 (by decide) rfl
          have s3 := sv_ e3
          have hJ := hI.j
          obtain ⟨qp1, qp2, qp5, HBq, qA⟩ := hJ
          obtain ⟨cp5_0, cp5_1, cp5_2, cp5_3, cp5_4, cp5_5⟩ := cells6 qp5.out
          exact op_keepA hI (i := 12) ⟨qp1, qp2, qp5, HBq, ⟨Apps.keep qA.out (Below.refl _ _) (by decide) (by decide) (by decide) (by decide) (by decide) (by decide)⟩⟩ (hrun := gs_)
        | 13, _ =>
          intro b a wq hI hbi_ hb_ hoff_
          have e27 := hI.new 27 12 (by decide) (hb_ 12 (by decide)) rfl fun _ h => h
          have s27 := sv_ e27
          have hJ := hI.j
          obtain ⟨qp1, qp2, qp5, HBq, qA⟩ := hJ
          obtain ⟨cp5_0, cp5_1, cp5_2, cp5_3, cp5_4, cp5_5⟩ := cells6 qp5.out
          refine ⟨_, rfl, rfl, fun K hK => ?_⟩
          obtain ⟨v1, hv1_⟩ := Apps.val1 qA.out (hb_ 5 (by decide))
          have e20 : a.eval (.tmp 20) = v1 := eval_of hv1_
          obtain ⟨cs_, hbx_, hsz_, hcs_⟩ := Apps.store1 qA.out (hb_ 5 (by decide)) (hb_ 11 (by decide)) hbi_ (hoff_ 15 (by decide)) hv1_
          obtain ⟨w2, hrun2, hbox2, ho2⟩ := run_cellstore (P := Try.prog) (ty := 37) hbx_ 0 v1 (by kernel_rfl) (by rw [hsz_]; decide) hcs_.1 hcs_.2.1 rfl
          refine skip_ rfl rfl (w1 := w2) (by unfold execOp; simp [e27, e20, hrun2]) (hK undef _ ⟨⟨Only.blk ho2 qp1.out (by first | exact N_p1_g.out | exact Ne.symm N_g_p1.out)⟩, ⟨Only.blk ho2 qp2.out (by first | exact N_p2_g.out | exact Ne.symm N_g_p2.out)⟩, ⟨Only.blk ho2 qp5.out (by first | exact N_p5_g.out | exact Ne.symm N_g_p5.out)⟩, ⟨Only.below ho2 HBq.out GEg.out⟩, ⟨hcs_.2.2 _ hbox2 ho2 _⟩⟩ (fun k u hk => by revert hk; match k with | 0 => exact id | 1 => exact id | 2 => exact id | 3 => exact id | 4 => exact (fun ⟨g_, h1_, h2_, h3_⟩ => ⟨g_, h1_, h2_, Only.blk ho2 h3_ (by have := HN0.out; omega)⟩) | 5 => exact id | 6 => exact id | 7 => exact id | 8 => exact id | 9 => exact id | 10 => exact (fun ⟨g_, h1_, h2_, h3_⟩ => ⟨g_, h1_, h2_, Only.blk ho2 h3_ (by have := HN0.out; omega)⟩) | 11 => exact id | 12 => exact id | 13 => exact id | 14 => exact id | 15 => exact id | k + 16 => exact id) trivial)
        | 14, _ =>
          intro b a wq hI hbi_ hb_ hoff_
          have e3 : a.eval (.tmp 3) = .pointer (some ⟨g, 0, none⟩) := hI.old 3 (by decide) rfl
          have s3 := sv_ e3
          have hJ := hI.j
          obtain ⟨qp1, qp2, qp5, HBq, qA⟩ := hJ
          obtain ⟨cp5_0, cp5_1, cp5_2, cp5_3, cp5_4, cp5_5⟩ := cells6 qp5.out
          exact op_keepA hI (i := 14) ⟨qp1, qp2, qp5, HBq, ⟨Apps.keep qA.out (Below.refl _ _) (by decide) (by decide) (by decide) (by decide) (by decide) (by decide)⟩⟩ (hrun := gs_)
        | 15, _ =>
          intro b a wq hI hbi_ hb_ hoff_
          have e28 := hI.new 28 14 (by decide) (hb_ 14 (by decide)) rfl fun _ h => h
          have s28 := sv_ e28
          have hJ := hI.j
          obtain ⟨qp1, qp2, qp5, HBq, qA⟩ := hJ
          obtain ⟨cp5_0, cp5_1, cp5_2, cp5_3, cp5_4, cp5_5⟩ := cells6 qp5.out
          refine ⟨_, rfl, rfl, fun K hK => ?_⟩
          obtain ⟨v1, hv1_⟩ := Apps.val2 qA.out (hb_ 11 (by decide))
          have e26 : a.eval (.tmp 26) = v1 := eval_of hv1_
          obtain ⟨cs_, hbx_, hsz_, hcs_⟩ := Apps.store2 qA.out (hb_ 5 (by decide)) (hb_ 11 (by decide)) (hb_ 13 (by decide)) hbi_ hv1_
          obtain ⟨w2, hrun2, hbox2, ho2⟩ := run_cellstore (P := Try.prog) (ty := 37) hbx_ 1 v1 (by kernel_rfl) (by rw [hsz_]; decide) hcs_.1 hcs_.2.1 rfl
          refine skip_ rfl rfl (w1 := w2) (by unfold execOp; simp [e28, e26, hrun2]) (hK undef _ ⟨⟨Only.blk ho2 qp1.out (by first | exact N_p1_g.out | exact Ne.symm N_g_p1.out)⟩, ⟨Only.blk ho2 qp2.out (by first | exact N_p2_g.out | exact Ne.symm N_g_p2.out)⟩, ⟨Only.blk ho2 qp5.out (by first | exact N_p5_g.out | exact Ne.symm N_g_p5.out)⟩, ⟨Only.below ho2 HBq.out GEg.out⟩, ⟨hcs_.2.2 _ hbox2 ho2 _⟩⟩ (fun k u hk => by revert hk; match k with | 0 => exact id | 1 => exact id | 2 => exact id | 3 => exact id | 4 => exact (fun ⟨g_, h1_, h2_, h3_⟩ => ⟨g_, h1_, h2_, Only.blk ho2 h3_ (by have := HN0.out; omega)⟩) | 5 => exact id | 6 => exact id | 7 => exact id | 8 => exact id | 9 => exact id | 10 => exact (fun ⟨g_, h1_, h2_, h3_⟩ => ⟨g_, h1_, h2_, Only.blk ho2 h3_ (by have := HN0.out; omega)⟩) | 11 => exact id | 12 => exact id | 13 => exact id | 14 => exact id | 15 => exact id | k + 16 => exact id) trivial)
        | o_ + 16, hi => exact absurd hi (by omega)
      intro vs wn b_ hall hJ hT
      obtain ⟨HJ0, HT0, HAL⟩ : Aside0 _ ∧ Aside0 _ ∧ Aside0 _ := ⟨⟨hJ⟩, ⟨hT⟩, ⟨hall⟩⟩
      clear hall hJ hT
      have t0_ := HT0.out 0 (by decide) (by decide)
      have t1_ := HT0.out 1 (by decide) (by decide)
      have t2_ := HT0.out 2 (by decide) (by decide)
      have t3_ := HT0.out 3 (by decide) (by decide)
      have t6_ := HT0.out 6 (by decide) (by decide)
      have t7_ := HT0.out 7 (by decide) (by decide)
      have t8_ := HT0.out 8 (by decide) (by decide)
      have t9_ := HT0.out 9 (by decide) (by decide)
      have t12_ := HT0.out 12 (by decide) (by decide)
      have t14_ := HT0.out 14 (by decide) (by decide)
      obtain ⟨g4_, t4_, _⟩ := HT0.out 4 (by decide) (by decide)
      obtain ⟨g10_, t10_, _⟩ := HT0.out 10 (by decide) (by decide)
      clear HB Bp1 Bp5
      (try clear cp1_0 cp1_1 cp1_2 cp1_3 cp1_4); (try clear cp5_0 cp5_1 cp5_2 cp5_3 cp5_4 cp5_5)
      clear Bg BvF BvB
      obtain ⟨Bp1, Bp2, Bp5, HB, BA⟩ := HJ0.out
      clear HJ0
      obtain ⟨vF2, vB2, hA_⟩ := BA.out
      clear BA
      have h20_ := (hA_.u1 (HAL.out 5 (by decide))).1
      have h26_ := hA_.v1 (HAL.out 11 (by decide))
      have t5_ := Option.some.inj ((fillAll_on (vs := vs) (i := 5) (s := 20) rfl (List.range 16) _ (by decide) (by decide) (by decide) (by show (20 : Nat) < 57; decide)).symm.trans h20_)
      have t11_ := Option.some.inj ((fillAll_on (vs := vs) (i := 11) (s := 26) rfl (List.range 16) _ (by decide) (by decide) (by decide) (by show (26 : Nat) < 57; decide)).symm.trans h26_)
      have BvF : Aside0 (RW wn w.heap.size vF2 (F' ++ [(rd_T36 l0 i).f1])) := ⟨by have := hA_.rF; rwa [if_pos (HAL.out 5 (by decide))] at this⟩
      have BvB : Aside0 (RW wn w.heap.size vB2 (B' ++ [(rd_T36 l0 i).f2])) := ⟨by have := hA_.rB; rwa [if_pos (HAL.out 11 (by decide))] at this⟩
      have nDis := Aside0.mk hA_.dis
      have hbx_ := hA_.box
      rw [if_pos (HAL.out 13 (by decide)), if_pos (HAL.out 15 (by decide))] at hbx_
      have Bg := Aside0.mk hbx_
      have N_vF_g := Aside0.mk hA_.gF
      have N_vB_g := Aside0.mk hA_.gB
      clear hA_ h20_ h26_ HT0 HAL hbx_ HDis
      have HDis := nDis
      clear nDis
      simp only [fillAll, show List.range 16 = [0, 1, 2, 3, 4, 5, 6, 7, 8, 9, 10, 11, 12, 13, 14, 15] from rfl]
      rw [(show vs 0 = _ from t0_), (show vs 1 = _ from t1_), (show vs 2 = _ from t2_), (show vs 3 = _ from t3_), (show vs 4 = _ from t4_), (show vs 5 = _ from t5_), (show vs 6 = _ from t6_), (show vs 7 = _ from t7_), (show vs 8 = _ from t8_), (show vs 9 = _ from t9_), (show vs 10 = _ from t10_), (show vs 11 = _ from t11_), (show vs 12 = _ from t12_), (show vs 14 = _ from t14_)]
      clear t0_ t1_ t2_ t3_ t4_ t5_ t6_ t7_ t8_ t9_ t10_ t11_ t12_ t14_
      simp only [Act.put, List.setIfInBounds_toArray, List.set_cons_zero, List.set_cons_succ]
      obtain ⟨cp1_0, cp1_1, cp1_2, cp1_3, cp1_4⟩ := cells5 Bp1.out; obtain ⟨cp5_0, cp5_1, cp5_2, cp5_3, cp5_4, cp5_5⟩ := cells6 Bp5.out; obtain ⟨cg_0, cg_1, cg_2, cg_3, cg_4⟩ := cells5 Bg.out
      go_wp2_with (first | ((with_reducible refine gate_store (t := 3) (p := 39) rfl ?_); go_must (refine cell_ev g 3 (.int .i64 (wrap64 (mo + wrap64 ((rd_T36 l0 i).f1.f1 + (rd_T36 l0 i).f2.f1)))) (cells := #[vF2, vB2, .slice none 0 0, .int .i64 (wrap64 (mo + wrap64 ((rd_T36 l0 i).f1.f1 + (rd_T36 l0 i).f2.f1))), .bool false]) Bg.out (h := ?_); intro w8 hbox ho_; replace HB := bel_o ho_ HB GEg; replace Bp1 := blk_o ho_ Bp1 (by first | exact N_p1_g.out | exact N_g_p1.out.symm); (try clear cp1_0 cp1_1 cp1_2 cp1_3 cp1_4); obtain ⟨cp1_0, cp1_1, cp1_2, cp1_3, cp1_4⟩ := cells5 Bp1.out; replace Bp2 := blk_o ho_ Bp2 (by first | exact N_p2_g.out | exact N_g_p2.out.symm); (try clear cp2_0 cp2_1 cp2_2 cp2_3 cp2_4); obtain ⟨cp2_0, cp2_1, cp2_2, cp2_3, cp2_4⟩ := cells5 Bp2.out; replace BvF := rw_o ho_ BvF (by first | exact N_vF_g.out | exact N_g_vF.out.symm); replace BvB := rw_o ho_ BvB (by first | exact N_vB_g.out | exact N_g_vB.out.symm); replace Bg := Aside0.mk hbox; clear hbox ho_; (try clear cg_0 cg_1 cg_2 cg_3 cg_4); obtain ⟨cg_0, cg_1, cg_2, cg_3, cg_4⟩ := cells5 Bg.out; )))
      (try clear cp1_0 cp1_1 cp1_2 cp1_3 cp1_4); (try clear cp5_0 cp5_1 cp5_2 cp5_3 cp5_4 cp5_5); (try clear cg_0 cg_1 cg_2 cg_3 cg_4)
      go_roundg (l0.length - (i + 1).toNat)
      case measure => have := Hn.out; omega
      case rel => exact ⟨i + 1, _, vF2, vB2, F' ++ [(rd_T36 l0 i).f1], B' ++ [(rd_T36 l0 i).f2], by omega, rfl, by omega, rfl, by have := HLL.out; simp only [List.length_append, List.length_cons, List.length_nil]; omega, by have := HLL.out; simp only [List.length_append, List.length_cons, List.length_nil]; omega, ⟨by rw [HE.out, HD.out, begF]⟩, HDis, ⟨Bp1.out⟩, ⟨Bp2.out⟩, ⟨Bg.out⟩, ⟨(R_r BvF)⟩, ⟨(R_r BvB)⟩, ⟨(bel_r HB)⟩⟩
    · have HE1 : Aside0 ((begF l0 [] [] 0) = (F', B', mo)) := ⟨by rw [HE.out, List.drop_eq_nil_of_le (by omega)]; rfl⟩
      have nBg : Aside0 (wr.heap[g]? = some (.cells #[vF, vB, .slice none 0 0, .int .i64 ((begF l0 [] [] 0).2.2), .bool false] 39 (0, 0))) := ⟨by rw [HE1.out]; exact Bg.out⟩
      have nBF : Aside0 (RW wr w.heap.size vF ((begF l0 [] [] 0).1)) := ⟨by rw [HE1.out]; exact BvF.out⟩
      have nBB : Aside0 (RW wr w.heap.size vB ((begF l0 [] [] 0).2.1)) := ⟨by rw [HE1.out]; exact BvB.out⟩
      clear Bg BvF BvB HE1 HE Hn hlF hlB
      have Bg := nBg
      have BvF := nBF
      have BvB := nBB
      clear nBg nBF nBB
      go_wp2
      clear hi hi0 hi'
      (try clear cp1_0 cp1_1 cp1_2 cp1_3 cp1_4); (try clear cp2_0 cp2_1 cp2_2 cp2_3 cp2_4)
      go_loopg [44] (l4.length) (fun k v44 w' => ∃ (i : Int) (vR : Value) (R' : List S32), 0 ≤ i ∧ k = l4.length - i.toNat ∧ i ≤ l4.length ∧ v44 = .int .i64 i ∧ R'.length = i.toNat ∧ Aside0 (begR l4 [] = begR (l4.drop i.toNat) R') ∧ Aside0 (Dis vF vR) ∧ Aside0 (Dis vB vR) ∧ Aside0 (w'.heap[p1]? = some (.cells #[.slice A0 l0.length c0, .slice A1 l1.length c1, .slice A2 l2.length c2, .slice A3 l3.length c3, .slice A4 l4.length c4] 29 (0, 0))) ∧ Aside0 (w'.heap[p2]? = some (.cells #[.slice none 0 0, .slice none 0 0, .slice none 0 0, .int .i64 0, .bool false] 39 (0, 0))) ∧ Aside0 (w'.heap[g]? = some (.cells #[vF, vB, vR, .int .i64 ((begF l0 [] [] 0).2.2), .bool false] 39 (0, 0))) ∧ Aside0 (RW w' w.heap.size vF ((begF l0 [] [] 0).1)) ∧ Aside0 (RW w' w.heap.size vB ((begF l0 [] [] 0).2.1)) ∧ Aside0 (RW w' w.heap.size vR R') ∧ Aside0 (Below w.heap.size w w'))
      case atStart => exact ⟨0, _, [], by omega, by simp, by omega, rfl, rfl, ⟨by simp⟩, ⟨fun k_ hk_ e_ => by simp [Value.ownBlock] at e_⟩, ⟨fun k_ hk_ e_ => by simp [Value.ownBlock] at e_⟩, ⟨Bp1.out⟩, ⟨Bp2.out⟩, ⟨Bg.out⟩, ⟨(R_r BvF)⟩, ⟨(R_r BvB)⟩, ⟨Kd.R_nil _ _ _ _ _⟩, ⟨(bel_r HB)⟩⟩
      case round =>
        clear Bp1 Bp2 Bg BvF BvB HB
        obtain ⟨i, vR, R', hi0, hn, hi, rfl, hlR, HE, HDvF, HDvB, Bp1, Bp2, Bg, BvF, BvB, BvR, HB⟩ := hrel
        have Hn := Aside0.mk hn
        clear hn
        obtain ⟨cp1_0, cp1_1, cp1_2, cp1_3, cp1_4⟩ := cells5 Bp1.out; obtain ⟨cp2_0, cp2_1, cp2_2, cp2_3, cp2_4⟩ := cells5 Bp2.out
        by_cases hi' : i < l4.length
        · obtain ⟨AR, cR, rfl⟩ := Kd.R_slice BvR.out
          obtain ⟨cg_0, cg_1, cg_2, cg_3, cg_4⟩ := cells5 Bg.out
          have HD : Aside0 (l4.drop i.toNat = (rd_T142 l4 i) :: l4.drop (i + 1).toNat) := ⟨by
            rw [show (i + 1).toNat = i.toNat + 1 by omega, List.drop_eq_getElem_cons (by omega)]; unfold rd_T142; simp [List.getD_eq_getElem?_getD, List.getElem?_eq_getElem (show i.toNat < l4.length by omega)]⟩
          have hm3 := HM4.out
          have HLR : Aside0 (R'.length = i.toNat ∧ R'.length ≤ 8) := ⟨⟨hlR, by omega⟩⟩
          clear hlR
          obtain ⟨ad, had, k0, k1, k2, k3, k4⟩ := at_T142 HR4.out i hi0 hi'
          replace k0 := pw_cell_below HB.out k0
          replace k1 := pw_cell_below HB.out k1
          replace k2 := pw_cell_below HB.out k2
          replace k3 := pw_cell_below HB.out k3
          replace k4 := pw_cell_below HB.out k4
          cases had
          go_wp2_with (first | ((with_reducible refine gate_dst (N := 7) rfl ?_); go_must (refine box_ev (N := 7) (cs := #[.int .i64 0, .int .i64 0, .int .i64 0, .int .i64 0, .int .i64 0]) (t := 142) (h := ?_); intro p7 hgp7 w8 hbox hb; have GEp7 := ge_new HB hgp7; have N_p1_p7 := ne_new Bp1 hgp7; have N_p2_p7 := ne_new Bp2 hgp7; have N_g_p7 := ne_new Bg hgp7; have N_vF_p7 := rw_new BvF hgp7; have N_vB_p7 := rw_new BvB hgp7; have N_vR_p7 := rw_new BvR hgp7; replace HB := bel_b hb HB; replace Bp1 := blk_b hb Bp1; (try clear cp1_0 cp1_1 cp1_2 cp1_3 cp1_4); obtain ⟨cp1_0, cp1_1, cp1_2, cp1_3, cp1_4⟩ := cells5 Bp1.out; replace Bp2 := blk_b hb Bp2; (try clear cp2_0 cp2_1 cp2_2 cp2_3 cp2_4); obtain ⟨cp2_0, cp2_1, cp2_2, cp2_3, cp2_4⟩ := cells5 Bp2.out; replace Bg := blk_b hb Bg; (try clear cg_0 cg_1 cg_2 cg_3 cg_4); obtain ⟨cg_0, cg_1, cg_2, cg_3, cg_4⟩ := cells5 Bg.out; replace BvF := rw_b hb BvF; replace BvB := rw_b hb BvB; replace BvR := rw_b hb BvR; have Bp7 := Aside0.mk hbox; clear hbox; obtain ⟨cp7_0, cp7_1, cp7_2, cp7_3, cp7_4⟩ := cells5 Bp7.out; (try clear hb); clear hgp7)) | ((with_reducible refine gate_store (t := 142) (p := 7) rfl ?_); go_must (refine row_ev p7 #[.int .i64 (rd_T142 l4 i).f0, .int .i64 (rd_T142 l4 i).f1.f0, .int .i64 (rd_T142 l4 i).f1.f1, .int .i64 (rd_T142 l4 i).f2.f0, .int .i64 (rd_T142 l4 i).f2.f1] Bp7.out (h := ?_); intro w9 hbox ho_; replace HB := bel_o ho_ HB GEp7; replace Bp1 := blk_o ho_ Bp1 (by first | exact N_p1_p7.out | exact N_p7_p1.out.symm); (try clear cp1_0 cp1_1 cp1_2 cp1_3 cp1_4); obtain ⟨cp1_0, cp1_1, cp1_2, cp1_3, cp1_4⟩ := cells5 Bp1.out; replace Bp2 := blk_o ho_ Bp2 (by first | exact N_p2_p7.out | exact N_p7_p2.out.symm); (try clear cp2_0 cp2_1 cp2_2 cp2_3 cp2_4); obtain ⟨cp2_0, cp2_1, cp2_2, cp2_3, cp2_4⟩ := cells5 Bp2.out; replace Bg := blk_o ho_ Bg (by first | exact N_g_p7.out | exact N_p7_g.out.symm); (try clear cg_0 cg_1 cg_2 cg_3 cg_4); obtain ⟨cg_0, cg_1, cg_2, cg_3, cg_4⟩ := cells5 Bg.out; replace BvF := rw_o ho_ BvF (by first | exact N_vF_p7.out | exact N_p7_vF.out.symm); replace BvB := rw_o ho_ BvB (by first | exact N_vB_p7.out | exact N_p7_vB.out.symm); replace BvR := rw_o ho_ BvR (by first | exact N_vR_p7.out | exact N_p7_vR.out.symm); replace Bp7 := Aside0.mk hbox; clear hbox ho_; (try clear cp7_0 cp7_1 cp7_2 cp7_3 cp7_4); obtain ⟨cp7_0, cp7_1, cp7_2, cp7_3, cp7_4⟩ := cells5 Bp7.out; )) | ((with_reducible refine gate_builtin (b := .append) rfl ?_); go_must (refine Kd.R_append k32 (w0 := w) w.heap.size rfl (.tmp 49) (.tmp 52) 37 32 (.agg #[(.int .i64 0), (.int .i64 0)]) 16 rfl Try.underlying37 info32 rfl (by decide) (by omega) (.slice AR R'.length cR) R' (⟨(rd_T142 l4 i).f2.f0, (rd_T142 l4 i).f2.f1⟩ : S32) [.int .i64 (rd_T142 l4 i).f2.f0, .int .i64 (rd_T142 l4 i).f2.f1] (fun _ => True) (fun _ => False) rfl rfl (k32_mkM _ _ _ _) (fun _ hk => hk.elim) (fun _ _ => trivial) ((R_r BvR)) ((bel_r HB)) (show Below w.heap.size w _ from (bel_r HB)).size (by have := HLR.out; omega) ?_; intro vR2 w10 hR2_ hb2_ hg2_ hat_; have nHB := Aside0.mk hb2_; have nBp1 := Aside0.mk (blk_grown2 hg2_ (Bp1.out) (fun k_ hk_ e_ => RW.ne (show RW _ _ (.slice AR R'.length cR) _ from (R_r BvR)) (show _ = some (Obj.cells #[.slice A0 l0.length c0, .slice A1 l1.length c1, .slice A2 l2.length c2, .slice A3 l3.length c3, .slice (some ad) l4.length c4] 29 (0, 0)) from Bp1.out) (by decide) (by rw [e_, hk_]))); have nBp2 := Aside0.mk (blk_grown2 hg2_ (Bp2.out) (fun k_ hk_ e_ => RW.ne (show RW _ _ (.slice AR R'.length cR) _ from (R_r BvR)) (show _ = some (Obj.cells #[.slice none 0 0, .slice none 0 0, .slice none 0 0, .int .i64 0, .bool false] 39 (0, 0)) from Bp2.out) (by decide) (by rw [e_, hk_]))); have nBg := Aside0.mk (blk_grown2 hg2_ (Bg.out) (fun k_ hk_ e_ => RW.ne (show RW _ _ (.slice AR R'.length cR) _ from (R_r BvR)) (show _ = some (Obj.cells #[vF, vB, .slice AR R'.length cR, .int .i64 ((begF l0 [] [] 0).2.2), .bool false] 39 (0, 0)) from Bg.out) (by decide) (by rw [e_, hk_]))); have nBp7 := Aside0.mk (blk_grown2 hg2_ (Bp7.out) (fun k_ hk_ e_ => RW.ne (show RW _ _ (.slice AR R'.length cR) _ from (R_r BvR)) (show _ = some (Obj.cells #[.int .i64 (rd_T142 l4 i).f0, .int .i64 (rd_T142 l4 i).f1.f0, .int .i64 (rd_T142 l4 i).f1.f1, .int .i64 (rd_T142 l4 i).f2.f0, .int .i64 (rd_T142 l4 i).f2.f1] 142 (0, 0)) from Bp7.out) (by decide) (by rw [e_, hk_]))); have nBvF := Aside0.mk (RW.grown ((R_r BvF)) hg2_ (fun k_ hk_ e_ => HDvF.out k_ e_.symm hk_.symm)); have nBvB := Aside0.mk (RW.grown ((R_r BvB)) hg2_ (fun k_ hk_ e_ => HDvB.out k_ e_.symm hk_.symm)); have nHDvF : Aside0 (Dis vF vR2) := ⟨fun k_ hk_ e_ => by rcases hat_ with h_ | ⟨j_, h_, hj_⟩; exact HDvF.out k_ hk_ (e_.trans h_); have h2_ := RW.lt (show RW _ _ vF _ from (R_r BvF)) k_ hk_; rw [h_] at e_; injection e_ with e_; subst e_; omega⟩; have nHDvB : Aside0 (Dis vB vR2) := ⟨fun k_ hk_ e_ => by rcases hat_ with h_ | ⟨j_, h_, hj_⟩; exact HDvB.out k_ hk_ (e_.trans h_); have h2_ := RW.lt (show RW _ _ vB _ from (R_r BvB)) k_ hk_; rw [h_] at e_; injection e_ with e_; subst e_; omega⟩; clear HB BvR HDvF HDvB; have HB := nHB; clear nHB; clear Bp1; have Bp1 := nBp1; clear nBp1; (try clear cp1_0 cp1_1 cp1_2 cp1_3 cp1_4); obtain ⟨cp1_0, cp1_1, cp1_2, cp1_3, cp1_4⟩ := cells5 Bp1.out; clear Bp2; have Bp2 := nBp2; clear nBp2; (try clear cp2_0 cp2_1 cp2_2 cp2_3 cp2_4); obtain ⟨cp2_0, cp2_1, cp2_2, cp2_3, cp2_4⟩ := cells5 Bp2.out; clear Bg; have Bg := nBg; clear nBg; (try clear cg_0 cg_1 cg_2 cg_3 cg_4); obtain ⟨cg_0, cg_1, cg_2, cg_3, cg_4⟩ := cells5 Bg.out; clear Bp7; have Bp7 := nBp7; clear nBp7; (try clear cp7_0 cp7_1 cp7_2 cp7_3 cp7_4); obtain ⟨cp7_0, cp7_1, cp7_2, cp7_3, cp7_4⟩ := cells5 Bp7.out; clear BvF; have BvF := nBvF; clear nBvF; have HDvF := nHDvF; clear nHDvF; clear BvB; have BvB := nBvB; clear nBvB; have HDvB := nHDvB; clear nHDvB; obtain ⟨AR2, cR2, e_⟩ := Kd.R_slice hR2_; rw [List.length_append, show [(⟨(rd_T142 l4 i).f2.f0, (rd_T142 l4 i).f2.f1⟩ : S32)].length = 1 from rfl] at e_; subst e_; have BvR := Aside0.mk (show RW w10 w.heap.size (.slice AR2 (R'.length + 1) cR2) (R' ++ [⟨(rd_T142 l4 i).f2.f0, (rd_T142 l4 i).f2.f1⟩]) from hR2_); clear hR2_ hb2_ hg2_ hat_; have N_vR_g : Aside0 (∀ k_, Value.ownBlock (.slice AR2 (R'.length + 1) cR2) = some k_ → k_ ≠ g) := ⟨fun k_ hk_ e_ => RW.ne BvR.out Bg.out (by decide) (by rw [← e_, hk_])⟩; have N_vF_g : Aside0 (∀ k_, Value.ownBlock vF = some k_ → k_ ≠ g) := ⟨fun k_ hk_ e_ => RW.ne BvF.out Bg.out (by decide) (by rw [← e_, hk_])⟩; have N_vB_g : Aside0 (∀ k_, Value.ownBlock vB = some k_ → k_ ≠ g) := ⟨fun k_ hk_ e_ => RW.ne BvB.out Bg.out (by decide) (by rw [← e_, hk_])⟩)) | ((with_reducible refine gate_store (t := 37) (p := 54) rfl ?_); go_must (refine cell_ev g 2 (.slice AR2 (R'.length + 1) cR2) (cells := #[vF, vB, .slice AR2 (R'.length + 1) cR2, .int .i64 ((begF l0 [] [] 0).2.2), .bool false]) Bg.out (h := ?_); intro w11 hbox ho_; replace HB := bel_o ho_ HB GEg; replace Bp1 := blk_o ho_ Bp1 (by first | exact N_p1_g.out | exact N_g_p1.out.symm); (try clear cp1_0 cp1_1 cp1_2 cp1_3 cp1_4); obtain ⟨cp1_0, cp1_1, cp1_2, cp1_3, cp1_4⟩ := cells5 Bp1.out; replace Bp2 := blk_o ho_ Bp2 (by first | exact N_p2_g.out | exact N_g_p2.out.symm); (try clear cp2_0 cp2_1 cp2_2 cp2_3 cp2_4); obtain ⟨cp2_0, cp2_1, cp2_2, cp2_3, cp2_4⟩ := cells5 Bp2.out; replace BvF := rw_o ho_ BvF (by first | exact N_vF_g.out | exact N_g_vF.out.symm); replace BvB := rw_o ho_ BvB (by first | exact N_vB_g.out | exact N_g_vB.out.symm); replace BvR := rw_o ho_ BvR (by first | exact N_vR_g.out | exact N_g_vR.out.symm); replace Bg := Aside0.mk hbox; clear hbox ho_; (try clear cg_0 cg_1 cg_2 cg_3 cg_4); obtain ⟨cg_0, cg_1, cg_2, cg_3, cg_4⟩ := cells5 Bg.out; )))
          (try clear cp1_0 cp1_1 cp1_2 cp1_3 cp1_4); (try clear cp2_0 cp2_1 cp2_2 cp2_3 cp2_4); (try clear cg_0 cg_1 cg_2 cg_3 cg_4); (try clear cp7_0 cp7_1 cp7_2 cp7_3 cp7_4)
          go_roundg (l4.length - (i + 1).toNat)
          case measure => have := Hn.out; omega
          case rel => exact ⟨i + 1, _, R' ++ [(⟨(rd_T142 l4 i).f2.f0, (rd_T142 l4 i).f2.f1⟩ : S32)], by omega, rfl, by omega, rfl, by have := HLR.out; simp only [List.length_append, List.length_cons, List.length_nil]; omega, ⟨by rw [HE.out, HD.out, begR]⟩, HDvF, HDvB, ⟨Bp1.out⟩, ⟨Bp2.out⟩, ⟨Bg.out⟩, ⟨(R_r BvF)⟩, ⟨(R_r BvB)⟩, ⟨(R_r BvR)⟩, ⟨(bel_r HB)⟩⟩
        · have HE1 : Aside0 (begR l4 [] = R') := ⟨by rw [HE.out, List.drop_eq_nil_of_le (by omega)]; rfl⟩
          clear hlR
          have hE1 := HE1.out
          clear HE1 HE
          subst hE1
          obtain ⟨AF, cF, hvF⟩ := Kd.R_slice BvF.out
          obtain ⟨AB, cB, hvB⟩ := Kd.R_slice BvB.out
          obtain ⟨AR, cR, hvR⟩ := Kd.R_slice BvR.out
          subst hvF hvB hvR
          have N_vF_g : Aside0 (∀ k_, Value.ownBlock (.slice AF (begF l0 [] [] 0).1.length cF) = some k_ → k_ ≠ g) := ⟨fun k_ hk_ e_ => RW.ne BvF.out Bg.out (by decide) (by rw [← e_, hk_])⟩; have N_vF_p2 : Aside0 (∀ k_, Value.ownBlock (.slice AF (begF l0 [] [] 0).1.length cF) = some k_ → k_ ≠ p2) := ⟨fun k_ hk_ e_ => RW.ne BvF.out Bp2.out (by decide) (by rw [← e_, hk_])⟩; have N_vB_g : Aside0 (∀ k_, Value.ownBlock (.slice AB (begF l0 [] [] 0).2.1.length cB) = some k_ → k_ ≠ g) := ⟨fun k_ hk_ e_ => RW.ne BvB.out Bg.out (by decide) (by rw [← e_, hk_])⟩; have N_vB_p2 : Aside0 (∀ k_, Value.ownBlock (.slice AB (begF l0 [] [] 0).2.1.length cB) = some k_ → k_ ≠ p2) := ⟨fun k_ hk_ e_ => RW.ne BvB.out Bp2.out (by decide) (by rw [← e_, hk_])⟩; have N_vR_g : Aside0 (∀ k_, Value.ownBlock (.slice AR (begR l4 []).length cR) = some k_ → k_ ≠ g) := ⟨fun k_ hk_ e_ => RW.ne BvR.out Bg.out (by decide) (by rw [← e_, hk_])⟩; have N_vR_p2 : Aside0 (∀ k_, Value.ownBlock (.slice AR (begR l4 []).length cR) = some k_ → k_ ≠ p2) := ⟨fun k_ hk_ e_ => RW.ne BvR.out Bp2.out (by decide) (by rw [← e_, hk_])⟩
          obtain ⟨cg_0, cg_1, cg_2, cg_3, cg_4⟩ := cells5 Bg.out
          go_wp2_with (first | ((with_reducible refine gate_store (t := 39) (p := 2) rfl ?_); go_must (refine row_ev p2 #[.slice AF (begF l0 [] [] 0).1.length cF, .slice AB (begF l0 [] [] 0).2.1.length cB, .slice AR (begR l4 []).length cR, .int .i64 ((begF l0 [] [] 0).2.2), .bool false] Bp2.out (h := ?_); intro w8 hbox ho_; replace HB := bel_o ho_ HB GEp2; replace Bp1 := blk_o ho_ Bp1 (by first | exact N_p1_p2.out | exact N_p2_p1.out.symm); (try clear cp1_0 cp1_1 cp1_2 cp1_3 cp1_4); obtain ⟨cp1_0, cp1_1, cp1_2, cp1_3, cp1_4⟩ := cells5 Bp1.out; replace Bg := blk_o ho_ Bg (by first | exact N_g_p2.out | exact N_p2_g.out.symm); (try clear cg_0 cg_1 cg_2 cg_3 cg_4); obtain ⟨cg_0, cg_1, cg_2, cg_3, cg_4⟩ := cells5 Bg.out; replace BvF := rw_o ho_ BvF (by first | exact N_vF_p2.out | exact N_p2_vF.out.symm); replace BvB := rw_o ho_ BvB (by first | exact N_vB_p2.out | exact N_p2_vB.out.symm); replace BvR := rw_o ho_ BvR (by first | exact N_vR_p2.out | exact N_p2_vR.out.symm); replace Bp2 := Aside0.mk hbox; clear hbox ho_; (try clear cp2_0 cp2_1 cp2_2 cp2_3 cp2_4); obtain ⟨cp2_0, cp2_1, cp2_2, cp2_3, cp2_4⟩ := cells5 Bp2.out; )))
          refine bodyPost_ret (results_cell_row rfl _ _ p2 39 #[.slice AF (begF l0 [] [] 0).1.length cF, .slice AB (begF l0 [] [] 0).2.1.length cB, .slice AR (begR l4 []).length cR, .int .i64 ((begF l0 [] [] 0).2.2), .bool false] (0, 0) _ rfl (Bp2.out) Try.underlying39 rfl (by kernel_rfl)) rfl ?_
          refine ⟨_, _, _, rfl, (show RW _ _ _ _ from (R_r BvF)), (show RW _ _ _ _ from (R_r BvB)), (show RW _ _ _ _ from (R_r BvR)), HDis.out, HDvF.out, HDvB.out, (show Below _ _ _ from (bel_r HB)), ?_⟩
          exact ⟨p1, p2, g, ⟨GEp1.out, _, _, Bp1.out, by decide⟩, ⟨GEp2.out, _, _, Bp2.out, by decide⟩, ⟨GEg.out, _, _, Bg.out, by decide⟩, N_p1_p2.out, N_p1_g.out, N_p2_g.out⟩
end Go.Proofs.Ytkhnhkjihhhbbaa.P

namespace Go.Proofs.Ytkhnhkjihhhbbaa.P
open Go.RowKit Go.Proofs.YtkhnhkjihhhbbaaW.PrintWords Go.Proofs.YtkhnhkjihhhbbaaW.PrintLast Go.Proofs.YtkhnhkjihhhbbaaW.PrintMore
set_option linter.unusedVariables false
set_option linter.unusedSimpArgs false
theorem info126 : (Try.prog.info? 126).map (fun i => (i.zero, i.size, i.bytes)) = some (some (.int .u64 0), 1, 8) := by kernel_rfl
/-- A row of sets of the call's own. -/
def RU (w : World) (n0 : Nat) (v : Value) (l : List Int) : Prop := Kd.R (Kd.int .u64) 126 w n0 (fun _ => True) v l
section
variable {w w1 : World} {n0 g : Nat} {v : Value} {l : List Int}
theorem RU.only (h : RU w n0 v l) (ho : Only g w w1) (hne : ∀ k, v.ownBlock = some k → k ≠ g) : RU w1 n0 v l := Kd.R_grown2 h rfl ho.grownBy (fun k hk e => hne k (by rw [← e]) (by injection hk with hk; exact hk.symm))
theorem ru_b {W W' w2 : World} (hb : Below W'.heap.size W' w2) (h : Aside0 (RU W n0 v l)) (h4 : W'.heap = W.heap := by exact rfl) : Aside0 (RU w2 n0 v l) := ⟨Kd.R_below (R_r h h4) hb⟩
theorem ru_new {W W' : World} (h : Aside0 (RU W n0 v l)) (hg : g = W'.heap.size) (h4 : W'.heap = W.heap := by exact rfl) : Aside0 (∀ k, v.ownBlock = some k → k ≠ g) := ⟨by rw [hg, h4]; exact fun k hk => Nat.ne_of_lt (Kd.R_lt h.out k hk)⟩
theorem ru_o {W W' w2 : World} (ho : Only g W' w2) (h : Aside0 (RU W n0 v l)) (hne : ∀ k, v.ownBlock = some k → k ≠ g) (h4 : W'.heap = W.heap := by exact rfl) : Aside0 (RU w2 n0 v l) := ⟨RU.only (R_r h h4) ho hne⟩
theorem RU.ne (h : RU w n0 v l) {t : TypeId} {cells : Array Value} (hb : w.heap[g]? = some (.cells cells t (0, 0))) (ht : 126 ≠ t) : ∀ k, v.ownBlock = some k → k ≠ g := fun k hk e => Kd.R_ne h hb ht (by rw [hk, e])
theorem RU.ne_map {kk : IntKind} {β : Type} {enc : β → Value} {L : List (Int × β)} (h : RU w n0 v l) (hm : IsMap kk enc w g L) : ∀ k, v.ownBlock = some k → k ≠ g := by
  intro k hk e
  subst e
  obtain ⟨_, inner, hown, _⟩ := h
  rcases hown.2 with ⟨hv, _⟩ | ⟨g', cap', cur, hv, _, hh, _⟩
  · rw [hv] at hk; cases hk
  · rw [hv] at hk
    have : g' = k := by simpa [Value.ownBlock] using hk
    subst this
    have hm2 : w.heap[g']? = some (.map (entriesOf kk enc L) L.length) := hm
    rw [hm2] at hh
    cases hh
theorem RU.map {kk : IntKind} {β : Type} {enc : β → Value} {L : List (Int × β)} (h : RU w n0 v l) (hm : IsMap kk enc w g L) (hg : w.grownBy w1 v.ownBlock) : IsMap kk enc w1 g L := by
  exact (hg.block g hm.lt (fun e => h.ne_map hm g e.symm rfl)).trans hm
end
def HuntingAs (n : Int) (A1 : Option Addr) (c1 : Nat) (TT : List S62) (w : World) (e : Ending) (w' : World) : Prop :=
  ∃ xb mm AO cO, e = .returned (.pointer (some ⟨xb, 0, none⟩)) ∧ Below w.heap.size w w' ∧ Hun w w' xb mm w'.heap.size n A1 AO c1 cO TT (testsOf TT) ∧ IsMap .u64 choiceV w' mm [] ∧ w.heap.size ≤ xb
set_option maxHeartbeats 8000000 in
set_option maxRecDepth 100000 in
theorem hunting_any (n : Int) (A1 : Option Addr) (c1 : Nat) (TT : List S62) (w : World) (hr : Kd.C k62 w A1 TT.length TT) (hc : TT.length ≤ c1) (hv : huntV n TT = 0) :
    Calls Try.prog 80 #[.agg #[.int .i64 n, .slice A1 TT.length c1]] w (HuntingAs n A1 c1 TT w) := by
  obtain ⟨hn1, hn2, hm12, hts⟩ := hunt_ok hv
  have HTS := Aside0.mk hts
  have HN12 := Aside0.mk (And.intro hn1 hn2)
  have HM12 := Aside0.mk hm12
  have HR := Aside0.mk hr
  have HC := Aside0.mk hc
  clear hts hn1 hn2 hm12 hr hc hv
  have HB := Aside0.mk (Below.refl w.heap.size w)
  go_enter Try.func80, Try.ntmps80
  go_wp2_with (first | ((with_reducible refine gate_dst (N := 1) rfl ?_); go_must (refine box_ev (N := 1) (cs := #[.int .i64 n, .slice A1 TT.length c1]) (t := 52) (h := ?_); intro p1 hgp1 w1 hbox hb; have GEp1 := ge_new HB hgp1; replace HB := bel_b hb HB; have Bp1 := Aside0.mk hbox; clear hbox; obtain ⟨cp1_0, cp1_1⟩ := cells2 Bp1.out; (try clear hb); clear hgp1)) | ((with_reducible refine gate_dst (N := 9) rfl ?_); go_must (refine make_event rfl 169 rfl .u64 choiceV ?_; intro mm hgmm w2 hbox hb; have GEmm := ge_new HB hgmm; have N_p1_mm := ne_new Bp1 hgmm; replace HB := bel_b hb HB; replace Bp1 := blk_b hb Bp1; (try clear cp1_0 cp1_1); obtain ⟨cp1_0, cp1_1⟩ := cells2 Bp1.out; have Bmm := Aside0.mk hbox; clear hbox; (try clear hb); clear hgmm)) | ((with_reducible refine gate_dst (N := 11) rfl ?_); go_must (refine box_ev (N := 11) (cs := #[.int .i64 n, .slice A1 TT.length c1, .slice none 0 0, .map (some mm)]) (t := 171) (h := ?_); intro xb hgxb w3 hbox hb; have GExb := ge_new HB hgxb; have N_p1_xb := ne_new Bp1 hgxb; have N_mm_xb := ne_new Bmm hgxb; replace HB := bel_b hb HB; replace Bp1 := blk_b hb Bp1; (try clear cp1_0 cp1_1); obtain ⟨cp1_0, cp1_1⟩ := cells2 Bp1.out; replace Bmm := map_b hb Bmm; have Bxb := Aside0.mk hbox; clear hbox; obtain ⟨cxb_0, cxb_1, cxb_2, cxb_3⟩ := cells4 Bxb.out; (try clear hb); clear hgxb)))
  (try clear cp1_0 cp1_1); (try clear cxb_0 cxb_1 cxb_2 cxb_3)
  go_loopg [15] (TT.length) (fun k v15 w' => ∃ (i : Int) (vO : Value) (l : List Int), 0 ≤ i ∧ k = TT.length - i.toNat ∧ i ≤ TT.length ∧ v15 = .int .i64 i ∧ Aside0 (l = ofs (testsOf (TT.take i.toNat))) ∧ Aside0 (Below w.heap.size w w') ∧ Aside0 (w'.heap[p1]? = some (.cells #[.int .i64 n, .slice A1 TT.length c1] 52 (0, 0))) ∧ Aside0 (w'.heap[xb]? = some (.cells #[.int .i64 n, .slice A1 TT.length c1, vO, .map (some mm)] 171 (0, 0))) ∧ Aside0 (IsMap .u64 choiceV w' mm ([])) ∧ Aside0 (RU w' w.heap.size vO l))
  case atStart => exact ⟨0, .slice none 0 0, [], by omega, by simp, by omega, rfl, ⟨by simp [testsOf, ofs]⟩, HB, ⟨Bp1.out⟩, ⟨Bxb.out⟩, ⟨Bmm.out⟩, ⟨Kd.R_nil _ _ _ _ _⟩⟩
  case round =>
    clear HB Bp1 Bxb Bmm
    obtain ⟨i, vO, l, hi0, hn, hi, rfl, HL, HB, Bp1, Bxb, Bmm, BO⟩ := hrel
    have Hn := Aside0.mk hn
    clear hn
    obtain ⟨AO, cO, hvO⟩ := Kd.R_slice BO.out
    subst hvO
    have HLN : Aside0 (l.length = i.toNat) := ⟨by rw [HL.out]; simp [ofs, testsOf]; omega⟩
    have hm12 := HM12.out
    by_cases hi' : i < TT.length
    · obtain ⟨ad, A5, c5, had, k0, k1, q2, q3⟩ := at_T62 HR.out i hi0 hi'
      have htm : (rd_T62 TT i) ∈ TT := by
        unfold rd_T62
        rw [List.getD_eq_getElem?_getD, List.getElem?_eq_getElem (show i.toNat < TT.length by omega)]
        exact List.getElem_mem _
      have hs0 := susp_set HN12.out.1 HN12.out.2 (HTS.out _ htm).1
      have hset := Aside0.mk (And.intro hs0.1 (HTS.out _ htm).1)
      clear htm hs0
      replace k0 := pw_cell_below HB.out k0
      replace k1 := pw_cell_below HB.out k1
      have HQ2 := Aside0.mk q2
      have HQ3 := Aside0.mk q3
      clear q2 q3
      cases had
      obtain ⟨cp1_0, cp1_1⟩ := cells2 Bp1.out; obtain ⟨cxb_0, cxb_1, cxb_2, cxb_3⟩ := cells4 Bxb.out
      obtain ⟨l2, hl2⟩ : ∃ l2, l2 = l ++ [(suspV n (rd_T62 TT i).f0).1] := ⟨_, rfl⟩
      have HL2 := Aside0.mk hl2
      clear hl2
      go_wp2_with (first | ((with_reducible refine gate_dst (N := 5) rfl ?_); go_must (refine box_ev (N := 5) (cs := #[.slice none 0 0, .int .i64 0]) (t := 62) (h := ?_); intro p5 hgp5 w4 hbox hb; have GEp5 := ge_new HB hgp5; have N_p1_p5 := ne_new Bp1 hgp5; have N_xb_p5 := ne_new Bxb hgp5; have N_mm_p5 := ne_new Bmm hgp5; have NO_p5 := ru_new BO hgp5; replace HB := bel_b hb HB; replace Bp1 := blk_b hb Bp1; (try clear cp1_0 cp1_1); obtain ⟨cp1_0, cp1_1⟩ := cells2 Bp1.out; replace Bxb := blk_b hb Bxb; (try clear cxb_0 cxb_1 cxb_2 cxb_3); obtain ⟨cxb_0, cxb_1, cxb_2, cxb_3⟩ := cells4 Bxb.out; replace Bmm := map_b hb Bmm; replace BO := ru_b hb BO; have Bp5 := Aside0.mk hbox; clear hbox; obtain ⟨cp5_0, cp5_1⟩ := cells2 Bp5.out; (try clear hb); clear hgp5)) | ((with_reducible refine gate_store (t := 62) (p := 5) rfl ?_); go_must (refine row_ev p5 #[.slice A5 (rd_T62 TT i).f0.length c5, .int .i64 (rd_T62 TT i).f1] Bp5.out (h := ?_); intro w5 hbox ho_; replace HB := bel_o ho_ HB GEp5; replace Bp1 := blk_o ho_ Bp1 (by first | exact N_p1_p5.out | exact N_p5_p1.out.symm); (try clear cp1_0 cp1_1); obtain ⟨cp1_0, cp1_1⟩ := cells2 Bp1.out; replace Bxb := blk_o ho_ Bxb (by first | exact N_xb_p5.out | exact N_p5_xb.out.symm); (try clear cxb_0 cxb_1 cxb_2 cxb_3); obtain ⟨cxb_0, cxb_1, cxb_2, cxb_3⟩ := cells4 Bxb.out; replace Bmm := map_o ho_ Bmm (by first | exact N_mm_p5.out | exact N_p5_mm.out.symm); replace BO := ru_o ho_ BO (by first | exact NO_p5.out | exact RU.ne BO.out Bp5.out (by decide)); replace Bp5 := Aside0.mk hbox; clear hbox ho_; (try clear cp5_0 cp5_1); obtain ⟨cp5_0, cp5_1⟩ := cells2 Bp5.out; )) | ((with_reducible refine gate_callee (f := 79) rfl ?_); refine goes_c (some 24) Try.func79 (susp_any n A5 c5 (rd_T62 TT i).f0 _ (Kd.C_below HQ3.out HB.out) HQ2.out) (h := ?_); rintro e w6 ⟨rfl, hb⟩; refine ⟨_, rfl, ?_⟩; replace HB := bel_b hb HB; replace Bp1 := blk_b hb Bp1; (try clear cp1_0 cp1_1); obtain ⟨cp1_0, cp1_1⟩ := cells2 Bp1.out; replace Bxb := blk_b hb Bxb; (try clear cxb_0 cxb_1 cxb_2 cxb_3); obtain ⟨cxb_0, cxb_1, cxb_2, cxb_3⟩ := cells4 Bxb.out; replace Bmm := map_b hb Bmm; replace BO := ru_b hb BO; replace Bp5 := blk_b hb Bp5; (try clear cp5_0 cp5_1); obtain ⟨cp5_0, cp5_1⟩ := cells2 Bp5.out; (try clear hb); ) | ((with_reducible refine gate_builtin (b := .append) (xs := #[.tmp 31, .tmp 33]) rfl ?_); at_builtin; refine Kd.R_append (Kd.int .u64) (w0 := w) w.heap.size rfl (.tmp 31) (.tmp 33) 168 126 (.int .u64 0) 8 rfl Try.underlying168 info126 rfl (by decide) (by omega) (.slice AO l.length cO) l (suspV n (rd_T62 TT i).f0).1 [.int .u64 (suspV n (rd_T62 TT i).f0).1] (fun _ => True) (fun _ => False) rfl rfl ?aP (fun _ hk => hk.elim) ?aF ?aO ?aB ?aS ?aL ?_; (case aP => exact rfl); (case aB => exact ((bel_r HB))); (case aF => exact (fun _ _ => trivial)); (case aO => exact ((R_r BO))); (case aS => exact (show Below w.heap.size w _ from (bel_r HB) : Below _ w _).size); (case aL => have := HLN.out; have := HM12.out; omega); intro v1 w7 ho hb hg hat; rw [← HL2.out] at ho; obtain ⟨AN, cN, hv1⟩ := Kd.R_slice ho; subst hv1; have nB := BO; replace Bp1 := Aside0.mk (blk_grown2 hg Bp1.out (fun k_ hk_ => Ne.symm (RU.ne (R_r nB) Bp1.out (by decide) k_ hk_))); (try clear cp1_0 cp1_1); obtain ⟨cp1_0, cp1_1⟩ := cells2 Bp1.out; replace Bxb := Aside0.mk (blk_grown2 hg Bxb.out (fun k_ hk_ => Ne.symm (RU.ne (R_r nB) Bxb.out (by decide) k_ hk_))); (try clear cxb_0 cxb_1 cxb_2 cxb_3); obtain ⟨cxb_0, cxb_1, cxb_2, cxb_3⟩ := cells4 Bxb.out; replace Bp5 := Aside0.mk (blk_grown2 hg Bp5.out (fun k_ hk_ => Ne.symm (RU.ne (R_r nB) Bp5.out (by decide) k_ hk_))); (try clear cp5_0 cp5_1); obtain ⟨cp5_0, cp5_1⟩ := cells2 Bp5.out; replace Bmm := Aside0.mk (RU.map (R_r nB) Bmm.out hg); have NO_xb : Aside0 (∀ k_, Value.ownBlock (.slice AN l2.length cN) = some k_ → k_ ≠ xb) := ⟨RU.ne ho Bxb.out (by decide)⟩; replace HB := Aside0.mk hb; clear nB BO; have BO : Aside0 (RU w7 w.heap.size _ _) := ⟨ho⟩; clear ho hb hg hat; skip) | ((with_reducible refine gate_store (t := 168) (p := 36) rfl ?_); go_must (refine cell_ev xb 2 (.slice AN l2.length cN) (cells := #[.int .i64 n, .slice (some ad) TT.length c1, .slice AN l2.length cN, .map (some mm)]) Bxb.out (h := ?_); intro w8 hbox ho_; replace HB := bel_o ho_ HB GExb; replace Bp1 := blk_o ho_ Bp1 (by first | exact N_p1_xb.out | exact N_xb_p1.out.symm); (try clear cp1_0 cp1_1); obtain ⟨cp1_0, cp1_1⟩ := cells2 Bp1.out; replace Bmm := map_o ho_ Bmm (by first | exact N_mm_xb.out | exact N_xb_mm.out.symm); replace Bp5 := blk_o ho_ Bp5 (by first | exact N_p5_xb.out | exact N_xb_p5.out.symm); (try clear cp5_0 cp5_1); obtain ⟨cp5_0, cp5_1⟩ := cells2 Bp5.out; replace BO := ru_o ho_ BO (by first | exact NO_xb.out | exact RU.ne BO.out Bxb.out (by decide)); replace Bxb := Aside0.mk hbox; clear hbox ho_; (try clear cxb_0 cxb_1 cxb_2 cxb_3); obtain ⟨cxb_0, cxb_1, cxb_2, cxb_3⟩ := cells4 Bxb.out; )))
      go_roundg (TT.length - (i + 1).toNat)
      case measure => have := Hn.out; omega
      case rel => exact ⟨i + 1, .slice AN l2.length cN, l2, by omega, rfl, by omega, rfl, ⟨by
        rw [HL2.out, HL.out, hset.out.1, show (i + 1).toNat = i.toNat + 1 by omega, List.take_succ_eq_append_getElem (by omega)]
        rw [show (rd_T62 TT i) = TT[i.toNat]'(by omega) from by unfold rd_T62; simp [List.getD_eq_getElem?_getD, List.getElem?_eq_getElem (show i.toNat < TT.length by omega)]]
        simp only [ofs, testsOf, List.map_append, List.map_cons, List.map_nil]⟩, ⟨(bel_r HB)⟩, ⟨Bp1.out⟩, ⟨Bxb.out⟩, ⟨Bmm.out⟩, ⟨(R_r BO)⟩⟩
    · go_wp2
      go_ret
      refine ⟨xb, mm, AO, cO, rfl, (bel_r HB), ?_, Bmm.out, GExb.out⟩
      have hti : TT.take i.toNat = TT := List.take_of_length_le (by omega)
      have hl : l = ofs (testsOf TT) := by rw [HL.out, hti]
      have hll : l.length = (testsOf TT).length := by rw [hl]; simp [ofs]
      have h1 := Bxb.out
      have h2 := BO.out
      rw [hll] at h1 h2
      rw [hl] at h2
      refine ⟨(bel_r HB), GExb.out, GEmm.out, Ne.symm N_mm_xb.out, h1, Kd.R_lower (Kd.R_mono (Kd.R_tight rfl h2) (fun k hk => ⟨fun e => ?_, Kd.R_lt h2 k hk.symm⟩)) (Nat.zero_le _), HR.out, HC.out, by simp [testsOf], fun t ht => ?_, by simp [testsOf]; exact HM12.out, Nat.le_refl _⟩
      · exact RU.ne_map h2 Bmm.out k hk.symm e
      · obtain ⟨x, hx, rfl⟩ := List.mem_map.1 ht
        have h3 := HTS.out x hx
        have h4 := susp_set HN12.out.1 HN12.out.2 h3.1
        have h5 := pow_12 HN12.out.2
        exact ⟨by show setN x.f0 < 4096; omega, h3.2.1, h3.2.2⟩
end Go.Proofs.Ytkhnhkjihhhbbaa.P

namespace Go.Proofs.Ytkhnhkjihhhbbaa.P
open Go.RowKit Go.Proofs.YtkhnhkjihhhbbaaW.PrintWords Go.Proofs.YtkhnhkjihhhbbaaW.PrintLast Go.Proofs.YtkhnhkjihhhbbaaW.PrintMore
set_option linter.unusedVariables false
set_option linter.unusedSimpArgs false
/-- What it costs to tell suspects apart, the best test, the error. -/
def worstV (n : Int) (TT : List S62) (l : List Int) : Int × Int × Int :=
  if huntV n TT = 0 then
    if l.length = 0 then (0, 0, 6)
    else if (suspV n l).2 = 0 then
      if (best (testsOf TT) (setN l)).1 < 0 then (0, 0, 15) else ((best (testsOf TT) (setN l)).1, (best (testsOf TT) (setN l)).2, 0)
    else (0, 0, (suspV n l).2)
  else (0, 0, huntV n TT)
set_option maxHeartbeats 8000000 in
set_option maxRecDepth 100000 in
theorem worst_any (n : Int) (A1 : Option Addr) (c1 : Nat) (TT : List S62) (A2 : Option Addr) (c2 : Nat) (l : List Int) (w : World) (hr : Kd.C k62 w A1 TT.length TT) (hc : TT.length ≤ c1) (hr2 : Kd.C (Kd.int .i64) w A2 l.length l) (hc2 : l.length ≤ c2) :
    Calls Try.prog 26 #[.agg #[.int .i64 n, .slice A1 TT.length c1], .slice A2 l.length c2] w fun e w' => e = .returned (.tuple #[.int .i64 (worstV n TT l).1, .int .i64 (worstV n TT l).2.1, .int .i64 (worstV n TT l).2.2]) ∧ Below w.heap.size w w' := by
  have HR := Aside0.mk hr
  have HC := Aside0.mk hc
  have HR2 := Aside0.mk hr2
  have HC2 := Aside0.mk hc2
  clear hr hc hr2 hc2
  have HB := Aside0.mk (Below.refl w.heap.size w)
  go_enter Try.func26, Try.ntmps26
  cases h1 : huntV n TT == 0
  · have h1n : (huntV n TT != 0) = true := by simpa using h1
    have HE : Aside0 (worstV n TT l = (0, 0, huntV n TT)) := ⟨by unfold worstV; rw [if_neg (by simpa using h1)]⟩
    go_wp2_with (first | ((with_reducible refine gate_dst (N := 2) rfl ?_); go_must (refine box_ev (N := 2) (cs := #[.int .i64 n, .slice A1 TT.length c1]) (t := 52) (h := ?_); intro b2 hgb2 w1 hbox hb; have GEb2 := ge_new HB hgb2; replace HB := bel_b hb HB; have Bb2 := Aside0.mk hbox; clear hbox; obtain ⟨cb2_0, cb2_1⟩ := cells2 Bb2.out; (try clear hb); clear hgb2)) | ((with_reducible refine gate_callee (f := 46) rfl ?_); refine goes_c (some 11) Try.func46 (hunt_any n A1 c1 TT _ (Kd.C_below HR.out HB.out) HC.out) (h := ?_); rintro e w2 ⟨rfl, hb⟩; refine ⟨_, rfl, ?_⟩; replace HB := bel_b hb HB; replace Bb2 := blk_b hb Bb2; (try clear cb2_0 cb2_1); obtain ⟨cb2_0, cb2_1⟩ := cells2 Bb2.out; (try clear hb); ))
    go_ret3
    exact ⟨by rw [HE.out]; rfl, (bel_r HB)⟩
  · have h1n : (huntV n TT != 0) = false := by simpa using h1
    have HV : Aside0 (huntV n TT = 0) := ⟨by simpa using h1⟩
    clear h1
    obtain ⟨hn1, hn2, _, _⟩ := hunt_ok HV.out
    have HN := Aside0.mk (And.intro hn1 hn2)
    clear hn1 hn2
    cases h2 : decide (l.length = 0)
    · have h2b : ((l.length : Int) == 0) = false := by simpa using h2
      have h2c : (l.length == 0) = false := by simpa using h2
      have H2 : Aside0 (l.length ≠ 0) := ⟨by simpa using h2⟩
      clear h2
      cases h3 : (suspV n l).2 == 0
      · have h3n : ((suspV n l).2 != 0) = true := by simpa using h3
        have HE : Aside0 (worstV n TT l = (0, 0, (suspV n l).2)) := ⟨by unfold worstV; rw [if_pos HV.out, if_neg H2.out, if_neg (by simpa using h3)]⟩
        go_wp2_with (first | ((with_reducible refine gate_dst (N := 2) rfl ?_); go_must (refine box_ev (N := 2) (cs := #[.int .i64 n, .slice A1 TT.length c1]) (t := 52) (h := ?_); intro b2 hgb2 w1 hbox hb; have GEb2 := ge_new HB hgb2; replace HB := bel_b hb HB; have Bb2 := Aside0.mk hbox; clear hbox; obtain ⟨cb2_0, cb2_1⟩ := cells2 Bb2.out; (try clear hb); clear hgb2)) | ((with_reducible refine gate_callee (f := 46) rfl ?_); refine goes_c (some 11) Try.func46 (hunt_any n A1 c1 TT _ (Kd.C_below HR.out HB.out) HC.out) (h := ?_); rintro e w2 ⟨rfl, hb⟩; refine ⟨_, rfl, ?_⟩; replace HB := bel_b hb HB; replace Bb2 := blk_b hb Bb2; (try clear cb2_0 cb2_1); obtain ⟨cb2_0, cb2_1⟩ := cells2 Bb2.out; (try clear hb); ) | ((with_reducible refine gate_callee (f := 79) rfl ?_); refine goes_c (some 22) Try.func79 (susp_any n A2 c2 l _ (Kd.C_below HR2.out HB.out) HC2.out) (h := ?_); rintro e w3 ⟨rfl, hb⟩; refine ⟨_, rfl, ?_⟩; replace HB := bel_b hb HB; replace Bb2 := blk_b hb Bb2; (try clear cb2_0 cb2_1); obtain ⟨cb2_0, cb2_1⟩ := cells2 Bb2.out; (try clear hb); ))
        go_ret3
        exact ⟨by rw [HE.out]; rfl, (bel_r HB)⟩
      · have h3n : ((suspV n l).2 != 0) = false := by simpa using h3
        have H3 : (suspV n l).2 = 0 := by simpa using h3
        clear h3
        obtain ⟨hs1, hs2, _⟩ := susp_set HN.out.1 HN.out.2 H3
        have hp := pow_12 HN.out.2
        obtain ⟨s, hs⟩ : ∃ s, s = setN l := ⟨_, rfl⟩
        obtain ⟨c, hcc⟩ : ∃ c, c = best (testsOf TT) s := ⟨_, rfl⟩
        have HE0 : Aside0 (worstV n TT l = if c.1 < 0 then (0, 0, 15) else (c.1, c.2, 0)) := ⟨by unfold worstV; rw [if_pos HV.out, if_neg H2.out, if_pos H3, ← hs, ← hcc]⟩
        rw [← hs] at hs1 hs2
        have HS : Aside0 (s < 4096) := ⟨by omega⟩
        have Hc := Aside0.mk hcc
        clear hcc hs hs2 hp H3
        cases d1 : decide (c.1 < 0)
        · have HE : Aside0 (worstV n TT l = (c.1, c.2, 0)) := ⟨by rw [HE0.out, if_neg (by simpa using d1)]⟩
          go_upto_region 12 with (first | ((with_reducible refine gate_dst (N := 2) rfl ?_); go_must (refine box_ev (N := 2) (cs := #[.int .i64 n, .slice A1 TT.length c1]) (t := 52) (h := ?_); intro b2 hgb2 w1 hbox hb; have GEb2 := ge_new HB hgb2; replace HB := bel_b hb HB; have Bb2 := Aside0.mk hbox; clear hbox; obtain ⟨cb2_0, cb2_1⟩ := cells2 Bb2.out; (try clear hb); clear hgb2)) | ((with_reducible refine gate_callee (f := 46) rfl ?_); refine goes_c (some 11) Try.func46 (hunt_any n A1 c1 TT _ (Kd.C_below HR.out HB.out) HC.out) (h := ?_); rintro e w2 ⟨rfl, hb⟩; refine ⟨_, rfl, ?_⟩; replace HB := bel_b hb HB; replace Bb2 := blk_b hb Bb2; (try clear cb2_0 cb2_1); obtain ⟨cb2_0, cb2_1⟩ := cells2 Bb2.out; (try clear hb); ) | ((with_reducible refine gate_callee (f := 79) rfl ?_); refine goes_c (some 22) Try.func79 (susp_any n A2 c2 l _ (Kd.C_below HR2.out HB.out) HC2.out) (h := ?_); rintro e w3 ⟨rfl, hb⟩; refine ⟨_, rfl, ?_⟩; replace HB := bel_b hb HB; replace Bb2 := blk_b hb Bb2; (try clear cb2_0 cb2_1); obtain ⟨cb2_0, cb2_1⟩ := cells2 Bb2.out; (try clear hb); ) | ((with_reducible refine gate_callee (f := 80) rfl ?_); go_must (have G2 : Aside0 (b2 < (World.heap _).size) := ⟨blk_lt Bb2.out⟩; have GW : Aside0 (w.heap.size ≤ (World.heap _).size) := ⟨(show Below w.heap.size w _ from (bel_r HB)).size⟩; refine goes_c (some 29) Try.func80 (hunting_any n A1 c1 TT _ (Kd.C_below HR.out HB.out) HC.out HV.out) (h := ?_); rintro e w4 ⟨xb, mm, AO, cO, rfl, hb, hun_, hmap_, _⟩; refine ⟨_, rfl, ?_⟩; replace HB := bel_b hb HB; replace Bb2 := blk_b hb Bb2; (try clear cb2_0 cb2_1); obtain ⟨cb2_0, cb2_1⟩ := cells2 Bb2.out; (try clear hb); have HH := Aside0.mk hun_; have Bmm := Aside0.mk hmap_; clear hun_ hmap_; skip)) | ((with_reducible refine gate_dst (N := 31) rfl ?_); go_must (refine goesL_ (some 31) rfl rfl Try.func81 (by kernel_rfl) rfl #[.pointer (some ⟨xb, 0, none⟩), .int .u64 (s : Int)] rfl (by (try simp only [List.map_toArray, List.map_cons, List.map_nil]); first | done | rfl) ?_; refine (best_any s HS.out _ [] HH.out Bmm.out (fun _ _ h_ => by cases h_)).mono ?_; rintro e w5 ⟨he_, ha_, L_, hm_, hk_⟩; rw [← Hc.out] at he_; subst he_; refine ⟨_, rfl, ?_⟩; replace HB := Aside0.mk (Apart.below ha_ (bel_r HB) (bel_r HB : Below w.heap.size w _).size (Nat.le_trans GW.out HH.out.s2) (Nat.le_trans GW.out HH.out.s2) (Nat.le_trans GW.out HH.out.s2) (Nat.le_trans GW.out HH.out.s2)); have nM : b2 ≠ mm := Nat.ne_of_lt (Nat.lt_of_lt_of_le G2.out HH.out.s2); replace Bb2 := Aside0.mk (Apart.blk ha_ Bb2.out nM nM nM nM); (try clear cb2_0 cb2_1); obtain ⟨cb2_0, cb2_1⟩ := cells2 Bb2.out; clear ha_ hm_ hk_ nM)) | ((with_reducible refine gate_dst (N := 9) rfl ?_); go_must (refine box_ev (N := 9) (cs := #[.int .i64 0, .int .i64 0]) (t := 130) (h := ?_); intro b9 hgb9 w6 hbox hb; have GEb9 := ge_new HB hgb9; have N_b2_b9 := ne_new Bb2 hgb9; replace HB := bel_b hb HB; replace Bb2 := blk_b hb Bb2; (try clear cb2_0 cb2_1); obtain ⟨cb2_0, cb2_1⟩ := cells2 Bb2.out; have Bb9 := Aside0.mk hbox; clear hbox; obtain ⟨cb9_0, cb9_1⟩ := cells2 Bb9.out; (try clear hb); clear hgb9)) | ((with_reducible refine gate_store (t := 130) (p := 9) rfl ?_); go_must (refine row_ev b9 #[.int .i64 c.1, .int .i64 c.2] Bb9.out (h := ?_); intro w7 hbox ho_; replace HB := bel_o ho_ HB GEb9; replace Bb2 := blk_o ho_ Bb2 (by first | exact N_b2_b9.out | exact N_b9_b2.out.symm); (try clear cb2_0 cb2_1); obtain ⟨cb2_0, cb2_1⟩ := cells2 Bb2.out; replace Bb9 := Aside0.mk hbox; clear hbox ho_; (try clear cb9_0 cb9_1); obtain ⟨cb9_0, cb9_1⟩ := cells2 Bb9.out; )))
          go_quiet (fail)
          go_wp2
          go_ret3
          exact ⟨by rw [HE.out]; rfl, (bel_r HB)⟩
        · have HE : Aside0 (worstV n TT l = (0, 0, 15)) := ⟨by rw [HE0.out, if_pos (by simpa using d1)]⟩
          go_wp2_with (first | ((with_reducible refine gate_dst (N := 2) rfl ?_); go_must (refine box_ev (N := 2) (cs := #[.int .i64 n, .slice A1 TT.length c1]) (t := 52) (h := ?_); intro b2 hgb2 w1 hbox hb; have GEb2 := ge_new HB hgb2; replace HB := bel_b hb HB; have Bb2 := Aside0.mk hbox; clear hbox; obtain ⟨cb2_0, cb2_1⟩ := cells2 Bb2.out; (try clear hb); clear hgb2)) | ((with_reducible refine gate_callee (f := 46) rfl ?_); refine goes_c (some 11) Try.func46 (hunt_any n A1 c1 TT _ (Kd.C_below HR.out HB.out) HC.out) (h := ?_); rintro e w2 ⟨rfl, hb⟩; refine ⟨_, rfl, ?_⟩; replace HB := bel_b hb HB; replace Bb2 := blk_b hb Bb2; (try clear cb2_0 cb2_1); obtain ⟨cb2_0, cb2_1⟩ := cells2 Bb2.out; (try clear hb); ) | ((with_reducible refine gate_callee (f := 79) rfl ?_); refine goes_c (some 22) Try.func79 (susp_any n A2 c2 l _ (Kd.C_below HR2.out HB.out) HC2.out) (h := ?_); rintro e w3 ⟨rfl, hb⟩; refine ⟨_, rfl, ?_⟩; replace HB := bel_b hb HB; replace Bb2 := blk_b hb Bb2; (try clear cb2_0 cb2_1); obtain ⟨cb2_0, cb2_1⟩ := cells2 Bb2.out; (try clear hb); ) | ((with_reducible refine gate_callee (f := 80) rfl ?_); go_must (have G2 : Aside0 (b2 < (World.heap _).size) := ⟨blk_lt Bb2.out⟩; have GW : Aside0 (w.heap.size ≤ (World.heap _).size) := ⟨(show Below w.heap.size w _ from (bel_r HB)).size⟩; refine goes_c (some 29) Try.func80 (hunting_any n A1 c1 TT _ (Kd.C_below HR.out HB.out) HC.out HV.out) (h := ?_); rintro e w4 ⟨xb, mm, AO, cO, rfl, hb, hun_, hmap_, _⟩; refine ⟨_, rfl, ?_⟩; replace HB := bel_b hb HB; replace Bb2 := blk_b hb Bb2; (try clear cb2_0 cb2_1); obtain ⟨cb2_0, cb2_1⟩ := cells2 Bb2.out; (try clear hb); have HH := Aside0.mk hun_; have Bmm := Aside0.mk hmap_; clear hun_ hmap_; skip)) | ((with_reducible refine gate_dst (N := 31) rfl ?_); go_must (refine goesL_ (some 31) rfl rfl Try.func81 (by kernel_rfl) rfl #[.pointer (some ⟨xb, 0, none⟩), .int .u64 (s : Int)] rfl (by (try simp only [List.map_toArray, List.map_cons, List.map_nil]); first | done | rfl) ?_; refine (best_any s HS.out _ [] HH.out Bmm.out (fun _ _ h_ => by cases h_)).mono ?_; rintro e w5 ⟨he_, ha_, L_, hm_, hk_⟩; rw [← Hc.out] at he_; subst he_; refine ⟨_, rfl, ?_⟩; replace HB := Aside0.mk (Apart.below ha_ (bel_r HB) (bel_r HB : Below w.heap.size w _).size (Nat.le_trans GW.out HH.out.s2) (Nat.le_trans GW.out HH.out.s2) (Nat.le_trans GW.out HH.out.s2) (Nat.le_trans GW.out HH.out.s2)); have nM : b2 ≠ mm := Nat.ne_of_lt (Nat.lt_of_lt_of_le G2.out HH.out.s2); replace Bb2 := Aside0.mk (Apart.blk ha_ Bb2.out nM nM nM nM); (try clear cb2_0 cb2_1); obtain ⟨cb2_0, cb2_1⟩ := cells2 Bb2.out; clear ha_ hm_ hk_ nM)) | ((with_reducible refine gate_dst (N := 9) rfl ?_); go_must (refine box_ev (N := 9) (cs := #[.int .i64 0, .int .i64 0]) (t := 130) (h := ?_); intro b9 hgb9 w6 hbox hb; have GEb9 := ge_new HB hgb9; have N_b2_b9 := ne_new Bb2 hgb9; replace HB := bel_b hb HB; replace Bb2 := blk_b hb Bb2; (try clear cb2_0 cb2_1); obtain ⟨cb2_0, cb2_1⟩ := cells2 Bb2.out; have Bb9 := Aside0.mk hbox; clear hbox; obtain ⟨cb9_0, cb9_1⟩ := cells2 Bb9.out; (try clear hb); clear hgb9)) | ((with_reducible refine gate_store (t := 130) (p := 9) rfl ?_); go_must (refine row_ev b9 #[.int .i64 c.1, .int .i64 c.2] Bb9.out (h := ?_); intro w7 hbox ho_; replace HB := bel_o ho_ HB GEb9; replace Bb2 := blk_o ho_ Bb2 (by first | exact N_b2_b9.out | exact N_b9_b2.out.symm); (try clear cb2_0 cb2_1); obtain ⟨cb2_0, cb2_1⟩ := cells2 Bb2.out; replace Bb9 := Aside0.mk hbox; clear hbox ho_; (try clear cb9_0 cb9_1); obtain ⟨cb9_0, cb9_1⟩ := cells2 Bb9.out; )))
          go_ret3
          exact ⟨by rw [HE.out]; rfl, (bel_r HB)⟩
    · have h2b : ((l.length : Int) == 0) = true := by simpa using h2
      have h2c : (l.length == 0) = true := by simpa using h2
      have HE : Aside0 (worstV n TT l = (0, 0, 6)) := ⟨by unfold worstV; rw [if_pos HV.out, if_pos (by simpa using h2)]⟩
      clear h2
      go_wp2_with (first | ((with_reducible refine gate_dst (N := 2) rfl ?_); go_must (refine box_ev (N := 2) (cs := #[.int .i64 n, .slice A1 TT.length c1]) (t := 52) (h := ?_); intro b2 hgb2 w1 hbox hb; have GEb2 := ge_new HB hgb2; replace HB := bel_b hb HB; have Bb2 := Aside0.mk hbox; clear hbox; obtain ⟨cb2_0, cb2_1⟩ := cells2 Bb2.out; (try clear hb); clear hgb2)) | ((with_reducible refine gate_callee (f := 46) rfl ?_); refine goes_c (some 11) Try.func46 (hunt_any n A1 c1 TT _ (Kd.C_below HR.out HB.out) HC.out) (h := ?_); rintro e w2 ⟨rfl, hb⟩; refine ⟨_, rfl, ?_⟩; replace HB := bel_b hb HB; replace Bb2 := blk_b hb Bb2; (try clear cb2_0 cb2_1); obtain ⟨cb2_0, cb2_1⟩ := cells2 Bb2.out; (try clear hb); ))
      go_ret3
      exact ⟨by rw [HE.out]; rfl, (bel_r HB)⟩
end Go.Proofs.Ytkhnhkjihhhbbaa.P

namespace Go.Proofs.Ytkhnhkjihhhbbaa.P
open Go.RowKit Go.Proofs.YtkhnhkjihhhbbaaW.PrintWords Go.Proofs.YtkhnhkjihhhbbaaW.PrintLast Go.Proofs.YtkhnhkjihhhbbaaW.PrintMore
set_option linter.unusedVariables false
set_option linter.unusedSimpArgs false
def rateV (he : Int) : List S136 → S32 → S32
  | [], q => q
  | b :: l, q => if he < b.f0 then q else rateV he l b.f1
def relS (he : Int) : List S36 → Int → List S32 → List S32 → List S32 × List S32
  | [], _, F, B => (F, B)
  | v :: l, i, F, B => relS he l (i + 1) (F.set i.toNat (addR (rd_T32 F i) ⟨down (rd_T32 B i).f0 (rateV he v.f3 ⟨0, 0⟩).f0, up_ (rd_T32 B i).f1 (rateV he v.f3 ⟨0, 0⟩).f1⟩))
      (B.set i.toNat ⟨down (rd_T32 B i).f0 (wrap64 (1000000 - (rateV he v.f3 ⟨0, 0⟩).f1)), up_ (rd_T32 B i).f1 (wrap64 (1000000 - (rateV he v.f3 ⟨0, 0⟩).f0))⟩)
section
variable {w0 w : World} {xb fb bb rb : Nat} {A0 A1 A2 A3 A4 As : Option Addr} {c0 c1 c2 c3 c4 cF cB cs : Nat} {vR : Value} {l0 : List S36} {l1 : List S138} {l2 : List S112} {l3 : List S140} {l4 : List S142} {F Bd Rm : List S32} {mo tk he : Int} {fl fs : Bool} {sh : List Int}
set_option maxHeartbeats 8000000 in
set_option maxRecDepth 100000 in
theorem release_any (hE : Env w0 w xb fb bb rb A0 A1 A2 A3 A4 c0 c1 c2 c3 c4 l0 l1 l2 l3 l4) (hS : Sys xb fb bb rb A0 A1 A2 A3 A4 c0 c1 c2 c3 c4 cF cB vR l0 l1 l2 l3 l4 F Bd Rm mo fl w) (hv : 0 ≤ he):
    Calls Try.prog 142 #[.pointer (some ⟨xb, 0, none⟩), .agg #[.int .i64 tk, .int .i64 he, .slice As sh.length cs, .bool fs]] w fun e w' => (∃ v, e = .returned v) ∧ Apart xb fb bb rb w w' ∧ Sys xb fb bb rb A0 A1 A2 A3 A4 c0 c1 c2 c3 c4 cF cB vR l0 l1 l2 l3 l4 (relS he l0 0 F Bd).1 (relS he l0 0 F Bd).2 Rm mo fl w' := by
  obtain ⟨H0, hs1, hs2, hs3, hs4, hl1, hl2, hl3, hl4, n1, n2, n3, n4, n5, n6, hr0, hr1, hr2, hr3, hr4, hc0, hc1, hc2, hc3, hc4, hm0⟩ := hE
  have HX : Aside0 (xb < w.heap.size ∧ fb < w.heap.size ∧ bb < w.heap.size ∧ rb < w.heap.size) := ⟨hl1, hl2, hl3, hl4⟩
  have HG : Aside0 (w0.heap.size ≤ xb ∧ w0.heap.size ≤ fb ∧ w0.heap.size ≤ bb ∧ w0.heap.size ≤ rb ∧ w0.heap.size ≤ w.heap.size) := ⟨hs1, hs2, hs3, hs4, H0.size⟩
  have HW0 := Aside0.mk H0
  clear hl1 hl2 hl3 hl4 hs1 hs2 hs3 hs4 H0
  have N_xb_fb := Aside0.mk n1
  have N_xb_bb := Aside0.mk n2
  have N_xb_rb := Aside0.mk n3
  have N_fb_bb := Aside0.mk n4
  have N_fb_rb := Aside0.mk n5
  have N_bb_rb := Aside0.mk n6
  have HR0 := Aside0.mk hr0
  have HR1 := Aside0.mk hr1
  have HR2 := Aside0.mk hr2
  have HR3 := Aside0.mk hr3
  have HR4 := Aside0.mk hr4
  have HC0 := Aside0.mk hc0
  have HC1 := Aside0.mk hc1
  have HC2 := Aside0.mk hc2
  have HC3 := Aside0.mk hc3
  have HC4 := Aside0.mk hc4
  have HM := Aside0.mk hm0
  clear n1 n2 n3 n4 n5 n6 hr0 hr1 hr2 hr3 hr4 hc0 hc1 hc2 hc3 hc4 hm0
  have HB : Aside0 (Apart xb fb bb rb w w) := ⟨Apart.refl w⟩
  obtain ⟨hb1, hb2, hb3, hb4⟩ := hS
  have Bxb := Aside0.mk hb1
  have Bfb := Aside0.mk hb2
  have Bbb := Aside0.mk hb3
  have Brb := Aside0.mk hb4
  clear hb1 hb2 hb3 hb4
  obtain ⟨cxb_0, cxb_1, cxb_2, cxb_3, cxb_4, cxb_5, cxb_6, cxb_7, cxb_8, cxb_9⟩ := cells10 Bxb.out; 
  go_enter Try.func142, Try.ntmps142
  go_wp2_with (first | ((with_reducible refine gate_dst (N := 3) rfl ?_); go_must (refine box_ev (N := 3) (cs := #[.int .i64 tk, .int .i64 he, .slice As sh.length cs, .bool fs]) (t := 45) (h := ?_); intro s hgs w1 hbox hb; have GEs := ge_newx HB hgs; have N_xb_s := ne_newx HX.out.1 HB hgs; have N_fb_s := ne_newx HX.out.2.1 HB hgs; have N_bb_s := ne_newx HX.out.2.2.1 HB hgs; have N_rb_s := ne_newx HX.out.2.2.2 HB hgs; replace HB := ap_b hb HB; replace Bxb := blk_b hb Bxb; (try clear cxb_0 cxb_1 cxb_2 cxb_3 cxb_4 cxb_5 cxb_6 cxb_7 cxb_8 cxb_9); obtain ⟨cxb_0, cxb_1, cxb_2, cxb_3, cxb_4, cxb_5, cxb_6, cxb_7, cxb_8, cxb_9⟩ := cells10 Bxb.out; replace Bfb := row_b hb Bfb; replace Bbb := row_b hb Bbb; replace Brb := row_b hb Brb; have Bs := Aside0.mk hbox; clear hbox; obtain ⟨cs_0, cs_1, cs_2, cs_3⟩ := cells4 Bs.out; (try clear hb); clear hgs)))
  (try clear cxb_0 cxb_1 cxb_2 cxb_3 cxb_4 cxb_5 cxb_6 cxb_7 cxb_8 cxb_9); (try clear cs_0 cs_1 cs_2 cs_3); 
  go_loopg [16] (l0.length) (fun k v16 w' => ∃ (i : Int) (F' B' : List S32), 0 ≤ i ∧ k = l0.length - i.toNat ∧ i ≤ l0.length ∧ v16 = .int .i64 i ∧ Aside0 (relS he l0 0 F Bd = relS he (l0.drop i.toNat) i F' B') ∧ Aside0 (Apart xb fb bb rb w w') ∧ Aside0 (w'.heap[xb]? = some (.cells #[.slice A0 l0.length c0, .slice A1 l1.length c1, .slice A2 l2.length c2, .slice A3 l3.length c3, .slice A4 l4.length c4, .slice (some ⟨fb, 0, none⟩) l0.length cF, .slice (some ⟨bb, 0, none⟩) l0.length cB, vR, .int .i64 mo, .bool fl] 119 (0, 0))) ∧ Aside0 (Row w' fb (.slice (some ⟨fb, 0, none⟩) l0.length cF) (F')) ∧ Aside0 (Row w' bb (.slice (some ⟨bb, 0, none⟩) l0.length cB) (B')) ∧ Aside0 (Row w' rb (vR) (Rm)) ∧ Aside0 (w'.heap[s]? = some (.cells #[.int .i64 tk, .int .i64 he, .slice As sh.length cs, .bool fs] 45 (0, 0))))
  case atStart => exact ⟨0, F, Bd, by omega, by simp, by omega, rfl, ⟨by simp⟩, HB, Bxb, Bfb, Bbb, Brb, Bs⟩
  case round =>
    clear HB Bxb Bfb Bbb Brb Bs
    obtain ⟨i, F', B', hi0, hn, hi, rfl, HE, HB, Bxb, Bfb, Bbb, Brb, Bs⟩ := hrel
    have Hn := Aside0.mk hn
    clear hn
    obtain ⟨cxb_0, cxb_1, cxb_2, cxb_3, cxb_4, cxb_5, cxb_6, cxb_7, cxb_8, cxb_9⟩ := cells10 Bxb.out; 
    obtain ⟨cs_0, cs_1, cs_2, cs_3⟩ := cells4 Bs.out; 
    by_cases hi' : i < l0.length
    · have HD : Aside0 (l0.drop i.toNat = (rd_T36 l0 i) :: l0.drop (i + 1).toNat) := ⟨by
        rw [show (i + 1).toNat = i.toNat + 1 by omega, List.drop_eq_getElem_cons (by omega)]; unfold rd_T36; simp [List.getD_eq_getElem?_getD, List.getElem?_eq_getElem (show i.toNat < l0.length by omega)]⟩
      obtain ⟨ad, A5, c5, had, k0, k1, k2, k3, k4, k5, hc5, hr5⟩ := at_T36 HR0.out i hi0 hi'
      replace k0 := pw_cell_below (Apart.below (show Apart xb fb bb rb w _ from (ap_r HB)) HW0.out HG.out.2.2.2.2 HG.out.1 HG.out.2.1 HG.out.2.2.1 HG.out.2.2.2.1) k0
      replace k1 := pw_cell_below (Apart.below (show Apart xb fb bb rb w _ from (ap_r HB)) HW0.out HG.out.2.2.2.2 HG.out.1 HG.out.2.1 HG.out.2.2.1 HG.out.2.2.2.1) k1
      replace k2 := pw_cell_below (Apart.below (show Apart xb fb bb rb w _ from (ap_r HB)) HW0.out HG.out.2.2.2.2 HG.out.1 HG.out.2.1 HG.out.2.2.1 HG.out.2.2.2.1) k2
      replace k3 := pw_cell_below (Apart.below (show Apart xb fb bb rb w _ from (ap_r HB)) HW0.out HG.out.2.2.2.2 HG.out.1 HG.out.2.1 HG.out.2.2.1 HG.out.2.2.2.1) k3
      replace k4 := pw_cell_below (Apart.below (show Apart xb fb bb rb w _ from (ap_r HB)) HW0.out HG.out.2.2.2.2 HG.out.1 HG.out.2.1 HG.out.2.2.1 HG.out.2.2.2.1) k4
      replace k5 := pw_cell_below (Apart.below (show Apart xb fb bb rb w _ from (ap_r HB)) HW0.out HG.out.2.2.2.2 HG.out.1 HG.out.2.1 HG.out.2.2.1 HG.out.2.2.2.1) k5
      have HC5 := Aside0.mk hc5
      have HR5 := Aside0.mk hr5
      clear hc5 hr5
      cases had
      go_wp2_with (first | ((with_reducible refine gate_dst (N := 5) rfl ?_); go_must (refine box_ev (N := 5) (cs := #[.int .i64 0, .int .i64 0, .int .i64 0, .int .i64 0, .int .i64 0, .slice none 0 0]) (t := 36) (h := ?_); intro p5 hgp5 w3 hbox hb; have GEp5 := ge_newx HB hgp5; have N_xb_p5 := ne_newx HX.out.1 HB hgp5; have N_fb_p5 := ne_newx HX.out.2.1 HB hgp5; have N_bb_p5 := ne_newx HX.out.2.2.1 HB hgp5; have N_rb_p5 := ne_newx HX.out.2.2.2 HB hgp5; have N_s_p5 := ne_new Bs hgp5; replace HB := ap_b hb HB; replace Bxb := blk_b hb Bxb; (try clear cxb_0 cxb_1 cxb_2 cxb_3 cxb_4 cxb_5 cxb_6 cxb_7 cxb_8 cxb_9); obtain ⟨cxb_0, cxb_1, cxb_2, cxb_3, cxb_4, cxb_5, cxb_6, cxb_7, cxb_8, cxb_9⟩ := cells10 Bxb.out; replace Bfb := row_b hb Bfb; replace Bbb := row_b hb Bbb; replace Brb := row_b hb Brb; replace Bs := blk_b hb Bs; (try clear cs_0 cs_1 cs_2 cs_3); obtain ⟨cs_0, cs_1, cs_2, cs_3⟩ := cells4 Bs.out; have Bp5 := Aside0.mk hbox; clear hbox; obtain ⟨cp5_0, cp5_1, cp5_2, cp5_3, cp5_4, cp5_5⟩ := cells6 Bp5.out; (try clear hb); clear hgp5)) | ((with_reducible refine gate_store (t := 36) (p := 5) rfl ?_); go_must (refine row_ev p5 #[.int .i64 (rd_T36 l0 i).f0, .int .i64 (rd_T36 l0 i).f1.f0, .int .i64 (rd_T36 l0 i).f1.f1, .int .i64 (rd_T36 l0 i).f2.f0, .int .i64 (rd_T36 l0 i).f2.f1, .slice A5 (rd_T36 l0 i).f3.length c5] Bp5.out (h := ?_); intro w4 hbox ho_; replace HB := ap_o ho_ HB (Or.inr (Or.inr (Or.inr (Or.inr GEp5.out)))); replace Bxb := blk_o ho_ Bxb (by first | exact N_xb_p5.out | exact N_p5_xb.out.symm); (try clear cxb_0 cxb_1 cxb_2 cxb_3 cxb_4 cxb_5 cxb_6 cxb_7 cxb_8 cxb_9); obtain ⟨cxb_0, cxb_1, cxb_2, cxb_3, cxb_4, cxb_5, cxb_6, cxb_7, cxb_8, cxb_9⟩ := cells10 Bxb.out; replace Bfb := row_o ho_ Bfb (by first | exact N_fb_p5.out | exact N_p5_fb.out.symm); replace Bbb := row_o ho_ Bbb (by first | exact N_bb_p5.out | exact N_p5_bb.out.symm); replace Brb := row_o ho_ Brb (by first | exact N_rb_p5.out | exact N_p5_rb.out.symm); replace Bs := blk_o ho_ Bs (by first | exact N_s_p5.out | exact N_p5_s.out.symm); (try clear cs_0 cs_1 cs_2 cs_3); obtain ⟨cs_0, cs_1, cs_2, cs_3⟩ := cells4 Bs.out; replace Bp5 := Aside0.mk hbox; clear hbox ho_; (try clear cp5_0 cp5_1 cp5_2 cp5_3 cp5_4 cp5_5); obtain ⟨cp5_0, cp5_1, cp5_2, cp5_3, cp5_4, cp5_5⟩ := cells6 Bp5.out; )) | ((with_reducible refine gate_dst (N := 6) rfl ?_); go_must (refine box_ev (N := 6) (cs := #[.int .i64 0, .int .i64 0]) (t := 32) (h := ?_); intro q6 hgq6 w5 hbox hb; have GEq6 := ge_newx HB hgq6; have N_xb_q6 := ne_newx HX.out.1 HB hgq6; have N_fb_q6 := ne_newx HX.out.2.1 HB hgq6; have N_bb_q6 := ne_newx HX.out.2.2.1 HB hgq6; have N_rb_q6 := ne_newx HX.out.2.2.2 HB hgq6; have N_s_q6 := ne_new Bs hgq6; have N_p5_q6 := ne_new Bp5 hgq6; replace HB := ap_b hb HB; replace Bxb := blk_b hb Bxb; (try clear cxb_0 cxb_1 cxb_2 cxb_3 cxb_4 cxb_5 cxb_6 cxb_7 cxb_8 cxb_9); obtain ⟨cxb_0, cxb_1, cxb_2, cxb_3, cxb_4, cxb_5, cxb_6, cxb_7, cxb_8, cxb_9⟩ := cells10 Bxb.out; replace Bfb := row_b hb Bfb; replace Bbb := row_b hb Bbb; replace Brb := row_b hb Brb; replace Bs := blk_b hb Bs; (try clear cs_0 cs_1 cs_2 cs_3); obtain ⟨cs_0, cs_1, cs_2, cs_3⟩ := cells4 Bs.out; replace Bp5 := blk_b hb Bp5; (try clear cp5_0 cp5_1 cp5_2 cp5_3 cp5_4 cp5_5); obtain ⟨cp5_0, cp5_1, cp5_2, cp5_3, cp5_4, cp5_5⟩ := cells6 Bp5.out; have Bq6 := Aside0.mk hbox; clear hbox; obtain ⟨cq6_0, cq6_1⟩ := cells2 Bq6.out; (try clear hb); clear hgq6)))
      clear k0 k1 k2 k3 k4 k5
      (try clear cxb_0 cxb_1 cxb_2 cxb_3 cxb_4 cxb_5 cxb_6 cxb_7 cxb_8 cxb_9); (try clear cs_0 cs_1 cs_2 cs_3); (try clear cp5_0 cp5_1 cp5_2 cp5_3 cp5_4 cp5_5); (try clear cq6_0 cq6_1); 
      have HN5 : Aside0 ((rd_T36 l0 i).f3.length ≤ 9223372036854775807) := ⟨Kd.C_max HR5.out⟩
      go_loopg [24] ((rd_T36 l0 i).f3.length) (fun k v24 w' => ∃ (j : Int) (q : S32), 0 ≤ j ∧ k = (rd_T36 l0 i).f3.length - j.toNat ∧ j ≤ (rd_T36 l0 i).f3.length ∧ v24 = .int .i64 j ∧ Aside0 (rateV he (rd_T36 l0 i).f3 ⟨0, 0⟩ = rateV he ((rd_T36 l0 i).f3.drop j.toNat) q) ∧ Aside0 (Apart xb fb bb rb w w') ∧ Aside0 (w'.heap[xb]? = some (.cells #[.slice (some ad) l0.length c0, .slice A1 l1.length c1, .slice A2 l2.length c2, .slice A3 l3.length c3, .slice A4 l4.length c4, .slice (some ⟨fb, 0, none⟩) l0.length cF, .slice (some ⟨bb, 0, none⟩) l0.length cB, vR, .int .i64 mo, .bool fl] 119 (0, 0))) ∧ Aside0 (Row w' fb (.slice (some ⟨fb, 0, none⟩) l0.length cF) (F')) ∧ Aside0 (Row w' bb (.slice (some ⟨bb, 0, none⟩) l0.length cB) (B')) ∧ Aside0 (Row w' rb (vR) (Rm)) ∧ Aside0 (w'.heap[s]? = some (.cells #[.int .i64 tk, .int .i64 he, .slice As sh.length cs, .bool fs] 45 (0, 0))) ∧ Aside0 (w'.heap[p5]? = some (.cells #[.int .i64 (rd_T36 l0 i).f0, .int .i64 (rd_T36 l0 i).f1.f0, .int .i64 (rd_T36 l0 i).f1.f1, .int .i64 (rd_T36 l0 i).f2.f0, .int .i64 (rd_T36 l0 i).f2.f1, .slice A5 (rd_T36 l0 i).f3.length c5] 36 (0, 0))) ∧ Aside0 (w'.heap[q6]? = some (.cells #[.int .i64 q.f0, .int .i64 q.f1] 32 (0, 0))))
      case atStart => exact ⟨0, ⟨0, 0⟩, by omega, by simp, by omega, rfl, ⟨by simp⟩, HB, Bxb, Bfb, Bbb, Brb, Bs, Bp5, Bq6⟩
      case round =>
        clear HB Bxb Bfb Bbb Brb Bs Bp5 Bq6
        obtain ⟨j, q, hj0, hnj, hj, rfl, HQ0, HB, Bxb, Bfb, Bbb, Brb, Bs, Bp5, Bq6⟩ := hrel
        have Hnj := Aside0.mk hnj
        clear hnj
        obtain ⟨cxb_0, cxb_1, cxb_2, cxb_3, cxb_4, cxb_5, cxb_6, cxb_7, cxb_8, cxb_9⟩ := cells10 Bxb.out; obtain ⟨cs_0, cs_1, cs_2, cs_3⟩ := cells4 Bs.out; obtain ⟨cp5_0, cp5_1, cp5_2, cp5_3, cp5_4, cp5_5⟩ := cells6 Bp5.out; obtain ⟨cq6_0, cq6_1⟩ := cells2 Bq6.out; 
        by_cases hj' : j < (rd_T36 l0 i).f3.length
        · have HDj : Aside0 ((rd_T36 l0 i).f3.drop j.toNat = (rd_T136 (rd_T36 l0 i).f3 j) :: (rd_T36 l0 i).f3.drop (j + 1).toNat) := ⟨by
            rw [show (j + 1).toNat = j.toNat + 1 by omega, List.drop_eq_getElem_cons (by omega)]; unfold rd_T136; simp [List.getD_eq_getElem?_getD, List.getElem?_eq_getElem (show j.toNat < (rd_T36 l0 i).f3.length by omega)]⟩
          obtain ⟨ad5, had, k0, k1, k2⟩ := at_T136 HR5.out j hj0 hj'
          replace k0 := pw_cell_below (Apart.below (show Apart xb fb bb rb w _ from (ap_r HB)) HW0.out HG.out.2.2.2.2 HG.out.1 HG.out.2.1 HG.out.2.2.1 HG.out.2.2.2.1) k0
          replace k1 := pw_cell_below (Apart.below (show Apart xb fb bb rb w _ from (ap_r HB)) HW0.out HG.out.2.2.2.2 HG.out.1 HG.out.2.1 HG.out.2.2.1 HG.out.2.2.2.1) k1
          replace k2 := pw_cell_below (Apart.below (show Apart xb fb bb rb w _ from (ap_r HB)) HW0.out HG.out.2.2.2.2 HG.out.1 HG.out.2.1 HG.out.2.2.1 HG.out.2.2.2.1) k2
          cases had
          by_cases hb : he < (rd_T136 (rd_T36 l0 i).f3 j).f0
          · have HQ : Aside0 (rateV he (rd_T36 l0 i).f3 ⟨0, 0⟩ = q) := ⟨by rw [HQ0.out, HDj.out, rateV, if_pos hb]⟩
            obtain ⟨cbb_0, dbb_0⟩ := Row.cells Bbb.out i hi0 hi'; 
            go_wp2_with (first | ((with_reducible refine gate_dst (N := 8) rfl ?_); go_must (refine box_ev (N := 8) (cs := #[.int .i64 0, .int .i64 0, .int .i64 0]) (t := 136) (h := ?_); intro p8 hgp8 w6 hbox hb; have GEp8 := ge_newx HB hgp8; have N_xb_p8 := ne_newx HX.out.1 HB hgp8; have N_fb_p8 := ne_newx HX.out.2.1 HB hgp8; have N_bb_p8 := ne_newx HX.out.2.2.1 HB hgp8; have N_rb_p8 := ne_newx HX.out.2.2.2 HB hgp8; have N_s_p8 := ne_new Bs hgp8; have N_p5_p8 := ne_new Bp5 hgp8; have N_q6_p8 := ne_new Bq6 hgp8; replace HB := ap_b hb HB; replace Bxb := blk_b hb Bxb; (try clear cxb_0 cxb_1 cxb_2 cxb_3 cxb_4 cxb_5 cxb_6 cxb_7 cxb_8 cxb_9); obtain ⟨cxb_0, cxb_1, cxb_2, cxb_3, cxb_4, cxb_5, cxb_6, cxb_7, cxb_8, cxb_9⟩ := cells10 Bxb.out; replace Bfb := row_b hb Bfb; replace Bbb := row_b hb Bbb; (try clear cbb_0 dbb_0); obtain ⟨cbb_0, dbb_0⟩ := Row.cells Bbb.out i hi0 hi'; replace Brb := row_b hb Brb; replace Bs := blk_b hb Bs; (try clear cs_0 cs_1 cs_2 cs_3); obtain ⟨cs_0, cs_1, cs_2, cs_3⟩ := cells4 Bs.out; replace Bp5 := blk_b hb Bp5; (try clear cp5_0 cp5_1 cp5_2 cp5_3 cp5_4 cp5_5); obtain ⟨cp5_0, cp5_1, cp5_2, cp5_3, cp5_4, cp5_5⟩ := cells6 Bp5.out; replace Bq6 := blk_b hb Bq6; (try clear cq6_0 cq6_1); obtain ⟨cq6_0, cq6_1⟩ := cells2 Bq6.out; have Bp8 := Aside0.mk hbox; clear hbox; obtain ⟨cp8_0, cp8_1, cp8_2⟩ := cells3 Bp8.out; (try clear hb); clear hgp8)) | ((with_reducible refine gate_store (t := 136) (p := 8) rfl ?_); go_must (refine row_ev p8 #[.int .i64 (rd_T136 (rd_T36 l0 i).f3 j).f0, .int .i64 (rd_T136 (rd_T36 l0 i).f3 j).f1.f0, .int .i64 (rd_T136 (rd_T36 l0 i).f3 j).f1.f1] Bp8.out (h := ?_); intro w7 hbox ho_; replace HB := ap_o ho_ HB (Or.inr (Or.inr (Or.inr (Or.inr GEp8.out)))); replace Bxb := blk_o ho_ Bxb (by first | exact N_xb_p8.out | exact N_p8_xb.out.symm); (try clear cxb_0 cxb_1 cxb_2 cxb_3 cxb_4 cxb_5 cxb_6 cxb_7 cxb_8 cxb_9); obtain ⟨cxb_0, cxb_1, cxb_2, cxb_3, cxb_4, cxb_5, cxb_6, cxb_7, cxb_8, cxb_9⟩ := cells10 Bxb.out; replace Bfb := row_o ho_ Bfb (by first | exact N_fb_p8.out | exact N_p8_fb.out.symm); replace Bbb := row_o ho_ Bbb (by first | exact N_bb_p8.out | exact N_p8_bb.out.symm); (try clear cbb_0 dbb_0); obtain ⟨cbb_0, dbb_0⟩ := Row.cells Bbb.out i hi0 hi'; replace Brb := row_o ho_ Brb (by first | exact N_rb_p8.out | exact N_p8_rb.out.symm); replace Bs := blk_o ho_ Bs (by first | exact N_s_p8.out | exact N_p8_s.out.symm); (try clear cs_0 cs_1 cs_2 cs_3); obtain ⟨cs_0, cs_1, cs_2, cs_3⟩ := cells4 Bs.out; replace Bp5 := blk_o ho_ Bp5 (by first | exact N_p5_p8.out | exact N_p8_p5.out.symm); (try clear cp5_0 cp5_1 cp5_2 cp5_3 cp5_4 cp5_5); obtain ⟨cp5_0, cp5_1, cp5_2, cp5_3, cp5_4, cp5_5⟩ := cells6 Bp5.out; replace Bq6 := blk_o ho_ Bq6 (by first | exact N_q6_p8.out | exact N_p8_q6.out.symm); (try clear cq6_0 cq6_1); obtain ⟨cq6_0, cq6_1⟩ := cells2 Bq6.out; replace Bp8 := Aside0.mk hbox; clear hbox ho_; (try clear cp8_0 cp8_1 cp8_2); obtain ⟨cp8_0, cp8_1, cp8_2⟩ := cells3 Bp8.out; )) | ((with_reducible refine gate_dst (N := 9) rfl ?_); go_must (refine box_ev (N := 9) (cs := #[.int .i64 0, .int .i64 0]) (t := 32) (h := ?_); intro p9 hgp9 w9 hbox hb; have GEp9 := ge_newx HB hgp9; have N_xb_p9 := ne_newx HX.out.1 HB hgp9; have N_fb_p9 := ne_newx HX.out.2.1 HB hgp9; have N_bb_p9 := ne_newx HX.out.2.2.1 HB hgp9; have N_rb_p9 := ne_newx HX.out.2.2.2 HB hgp9; have N_s_p9 := ne_new Bs hgp9; have N_q6_p9 := ne_new Bq6 hgp9; replace HB := ap_b hb HB; replace Bxb := blk_b hb Bxb; (try clear cxb_0 cxb_1 cxb_2 cxb_3 cxb_4 cxb_5 cxb_6 cxb_7 cxb_8 cxb_9); obtain ⟨cxb_0, cxb_1, cxb_2, cxb_3, cxb_4, cxb_5, cxb_6, cxb_7, cxb_8, cxb_9⟩ := cells10 Bxb.out; replace Bfb := row_b hb Bfb; replace Bbb := row_b hb Bbb; (try clear cbb_0 dbb_0); obtain ⟨cbb_0, dbb_0⟩ := Row.cells Bbb.out i hi0 hi'; replace Brb := row_b hb Brb; replace Bs := blk_b hb Bs; (try clear cs_0 cs_1 cs_2 cs_3); obtain ⟨cs_0, cs_1, cs_2, cs_3⟩ := cells4 Bs.out; replace Bq6 := blk_b hb Bq6; (try clear cq6_0 cq6_1); obtain ⟨cq6_0, cq6_1⟩ := cells2 Bq6.out; have Bp9 := Aside0.mk hbox; clear hbox; obtain ⟨cp9_0, cp9_1⟩ := cells2 Bp9.out; (try clear hb); clear hgp9)) | ((with_reducible refine gate_store (t := 32) (p := 9) rfl ?_); go_must (refine row_ev p9 #[.int .i64 (rd_T32 B' i).f0, .int .i64 (rd_T32 B' i).f1] Bp9.out (h := ?_); intro w10 hbox ho_; replace HB := ap_o ho_ HB (Or.inr (Or.inr (Or.inr (Or.inr GEp9.out)))); replace Bxb := blk_o ho_ Bxb (by first | exact N_xb_p9.out | exact N_p9_xb.out.symm); (try clear cxb_0 cxb_1 cxb_2 cxb_3 cxb_4 cxb_5 cxb_6 cxb_7 cxb_8 cxb_9); obtain ⟨cxb_0, cxb_1, cxb_2, cxb_3, cxb_4, cxb_5, cxb_6, cxb_7, cxb_8, cxb_9⟩ := cells10 Bxb.out; replace Bfb := row_o ho_ Bfb (by first | exact N_fb_p9.out | exact N_p9_fb.out.symm); replace Bbb := row_o ho_ Bbb (by first | exact N_bb_p9.out | exact N_p9_bb.out.symm); (try clear cbb_0 dbb_0); obtain ⟨cbb_0, dbb_0⟩ := Row.cells Bbb.out i hi0 hi'; replace Brb := row_o ho_ Brb (by first | exact N_rb_p9.out | exact N_p9_rb.out.symm); replace Bs := blk_o ho_ Bs (by first | exact N_s_p9.out | exact N_p9_s.out.symm); (try clear cs_0 cs_1 cs_2 cs_3); obtain ⟨cs_0, cs_1, cs_2, cs_3⟩ := cells4 Bs.out; replace Bq6 := blk_o ho_ Bq6 (by first | exact N_q6_p9.out | exact N_p9_q6.out.symm); (try clear cq6_0 cq6_1); obtain ⟨cq6_0, cq6_1⟩ := cells2 Bq6.out; replace Bp9 := Aside0.mk hbox; clear hbox ho_; (try clear cp9_0 cp9_1); obtain ⟨cp9_0, cp9_1⟩ := cells2 Bp9.out; )))
            (try clear Bp5); (try clear Bp8)
            refine region_ri (n := 28) (B := [0, 1, 3, 7, 15, 0, 0, 64, 192, 448, 960, 0, 4032, 8128, 0, 16384, 0, 65536, 245760, 0, 524288, 0, 2097152, 8372224, 16760832, 33554368, 67108863, 134217727]) (fun o_ => match o_ with | 0 => some 44 | 1 => some 45 | 2 => some 46 | 3 => some 47 | 4 => some 48 | 5 => some 49 | 6 => some 50 | 7 => some 51 | 8 => some 52 | 9 => some 53 | 10 => some 54 | 11 => some 55 | 12 => some 56 | 13 => some 57 | 14 => some 58 | 15 => some 59 | 16 => some 60 | 17 => some 61 | 18 => some 62 | 19 => some 63 | 20 => some 64 | 21 => some 65 | 22 => some 66 | 23 => some 67 | 24 => some 68 | 25 => some 69 | 26 => some 70 | 27 => none | _ => none) (fun o_ q_ w' => match o_ with | 0 => q_ = .pointer (some ⟨xb, 0, none⟩) | 1 => q_ = .pointer (some ⟨xb, 0, none⟩) | 2 => q_ = .pointer (some ⟨xb, 5, none⟩) | 3 => q_ = .pointer (some ⟨xb, 5, none⟩) | 4 => q_ = .slice (some ⟨fb, 0, none⟩) l0.length cF | 5 => q_ = .int .i64 i | 6 => q_ = .pointer (some ⟨xb, 0, none⟩) | 7 => q_ = .pointer (some ⟨xb, 0, none⟩) | 8 => q_ = .pointer (some ⟨xb, 5, none⟩) | 9 => q_ = .pointer (some ⟨xb, 5, none⟩) | 10 => q_ = .slice (some ⟨fb, 0, none⟩) l0.length cF | 11 => q_ = .int .i64 i | 12 => q_ = .pointer (some ⟨fb, i.toNat * 2, none⟩) | 13 => q_ = .agg #[.int .i64 (rd_T32 (F') i).f0, .int .i64 (rd_T32 (F') i).f1] | 14 => q_ = .pointer (some ⟨p9, 0, none⟩) | 15 => q_ = .int .i64 (rd_T32 B' i).f0 | 16 => q_ = .pointer (some ⟨q6, 0, none⟩) | 17 => q_ = .int .i64 q.f0 | 18 => q_ = .int .i64 (down ((rd_T32 B' i).f0) q.f0) | 19 => q_ = .pointer (some ⟨p9, 1, none⟩) | 20 => q_ = .int .i64 (rd_T32 B' i).f1 | 21 => q_ = .pointer (some ⟨q6, 1, none⟩) | 22 => q_ = .int .i64 q.f1 | 23 => q_ = .int .i64 (up_ ((rd_T32 B' i).f1) q.f1) | 24 => q_ = .agg #[.int .i64 (down ((rd_T32 B' i).f0) q.f0), .int .i64 (up_ ((rd_T32 B' i).f1) q.f1)] | 25 => q_ = .agg #[.int .i64 (wrap64 ((rd_T32 (F') i).f0 + (down ((rd_T32 B' i).f0) q.f0))), .int .i64 (wrap64 ((rd_T32 (F') i).f1 + (up_ ((rd_T32 B' i).f1) q.f1)))] | 26 => q_ = .pointer (some ⟨fb, i.toNat * 2, none⟩) | _ => True) (fun b w' => if b 27 = true then (Aside0 (Apart xb fb bb rb w w') ∧ Aside0 (w'.heap[xb]? = some (.cells #[.slice (some ad) l0.length c0, .slice A1 l1.length c1, .slice A2 l2.length c2, .slice A3 l3.length c3, .slice A4 l4.length c4, .slice (some ⟨fb, 0, none⟩) l0.length cF, .slice (some ⟨bb, 0, none⟩) l0.length cB, vR, .int .i64 mo, .bool fl] 119 (0, 0))) ∧ Aside0 (Row w' fb (.slice (some ⟨fb, 0, none⟩) l0.length cF) (((F').set i.toNat ⟨(wrap64 ((rd_T32 (F') i).f0 + (down ((rd_T32 B' i).f0) q.f0))), (wrap64 ((rd_T32 (F') i).f1 + (up_ ((rd_T32 B' i).f1) q.f1)))⟩))) ∧ Aside0 (Row w' bb (.slice (some ⟨bb, 0, none⟩) l0.length cB) (B')) ∧ Aside0 (Row w' rb (vR) (Rm)) ∧ Aside0 (w'.heap[s]? = some (.cells #[.int .i64 tk, .int .i64 he, .slice As sh.length cs, .bool fs] 45 (0, 0))) ∧ Aside0 (w'.heap[q6]? = some (.cells #[.int .i64 q.f0, .int .i64 q.f1] 32 (0, 0))) ∧ Aside0 (w'.heap[p9]? = some (.cells #[.int .i64 (rd_T32 B' i).f0, .int .i64 (rd_T32 B' i).f1] 32 (0, 0)))) else (Aside0 (Apart xb fb bb rb w w') ∧ Aside0 (w'.heap[xb]? = some (.cells #[.slice (some ad) l0.length c0, .slice A1 l1.length c1, .slice A2 l2.length c2, .slice A3 l3.length c3, .slice A4 l4.length c4, .slice (some ⟨fb, 0, none⟩) l0.length cF, .slice (some ⟨bb, 0, none⟩) l0.length cB, vR, .int .i64 mo, .bool fl] 119 (0, 0))) ∧ Aside0 (Row w' fb (.slice (some ⟨fb, 0, none⟩) l0.length cF) (F')) ∧ Aside0 (Row w' bb (.slice (some ⟨bb, 0, none⟩) l0.length cB) (B')) ∧ Aside0 (Row w' rb (vR) (Rm)) ∧ Aside0 (w'.heap[s]? = some (.cells #[.int .i64 tk, .int .i64 he, .slice As sh.length cs, .bool fs] 45 (0, 0))) ∧ Aside0 (w'.heap[q6]? = some (.cells #[.int .i64 q.f0, .int .i64 q.f1] 32 (0, 0))) ∧ Aside0 (w'.heap[p9]? = some (.cells #[.int .i64 (rd_T32 B' i).f0, .int .i64 (rd_T32 B' i).f1] 32 (0, 0))))) rfl rfl (by kernel_rfl) (by kernel_rfl) (by kernel_rfl) (by show (if false = true then _ else _); rw [if_neg (by decide)]; exact ⟨ap_b (below_drew (Below.refl _ _)) HB, blk_b (below_drew (Below.refl _ _)) Bxb, row_b (below_drew (Below.refl _ _)) Bfb, row_b (below_drew (Below.refl _ _)) Bbb, row_b (below_drew (Below.refl _ _)) Brb, blk_b (below_drew (Below.refl _ _)) Bs, blk_b (below_drew (Below.refl _ _)) Bq6, blk_b (below_drew (Below.refl _ _)) Bp9⟩) ?_ ?_
            · intro o_ hi
              match o_, hi with
              | 0, _ =>
                intro b a wq hI hbi_ hb_ hoff_
                have e0 : a.eval (.tmp 0) = .pointer (some ⟨xb, 0, none⟩) := hI.old 0 (by decide) rfl
                have s0 := sv_ e0
                have hJ := hI.j
                exact op_keep hI (i := 0) (jk_ hJ (by decide)) (hrun := gs_)
              | 1, _ =>
                intro b a wq hI hbi_ hb_ hoff_
                have e44 := hI.new 44 0 (by decide) (hb_ 0 (by decide)) rfl fun _ h => h
                have s44 := sv_ e44
                have hJ := hI.j
                exact op_keep hI (i := 1) (jk_ hJ (by decide)) (hrun := gs_)
              | 2, _ =>
                intro b a wq hI hbi_ hb_ hoff_
                have e45 := hI.new 45 1 (by decide) (hb_ 1 (by decide)) rfl fun _ h => h
                have s45 := sv_ e45
                have hJ := hI.j
                exact op_keep hI (i := 2) (jk_ hJ (by decide)) (hrun := gs_)
              | 3, _ =>
                intro b a wq hI hbi_ hb_ hoff_
                have e46 := hI.new 46 2 (by decide) (hb_ 2 (by decide)) rfl fun _ h => h
                have s46 := sv_ e46
                have hJ := hI.j
                exact op_keep hI (i := 3) (jk_ hJ (by decide)) (hrun := gs_)
              | 4, _ =>
                intro b a wq hI hbi_ hb_ hoff_
                have e47 := hI.new 47 3 (by decide) (hb_ 3 (by decide)) rfl fun _ h => h
                have s47 := sv_ e47
                have hJ := hI.j
                obtain ⟨HBq, qxb, qfb, qbb, qrb, qs, qq6, qp9⟩ := j0_ hJ (hoff_ 27 (by decide))
                obtain ⟨cxb_0, cxb_1, cxb_2, cxb_3, cxb_4, cxb_5, cxb_6, cxb_7, cxb_8, cxb_9⟩ := cells10 qxb.out; 
                exact op_keep hI (i := 4) (jk_ hJ (by decide)) (hrun := gs_)
              | 5, _ =>
                intro b a wq hI hbi_ hb_ hoff_
                have e4 : a.eval (.tmp 4) = .int .i64 i := hI.old 4 (by decide) rfl
                have s4 := sv_ e4
                have hJ := hI.j
                exact op_keep hI (i := 5) (jk_ hJ (by decide)) (hrun := gs_)
              | 6, _ =>
                intro b a wq hI hbi_ hb_ hoff_
                have e0 : a.eval (.tmp 0) = .pointer (some ⟨xb, 0, none⟩) := hI.old 0 (by decide) rfl
                have s0 := sv_ e0
                have hJ := hI.j
                exact op_keep hI (i := 6) (jk_ hJ (by decide)) (hrun := gs_)
              | 7, _ =>
                intro b a wq hI hbi_ hb_ hoff_
                have e50 := hI.new 50 6 (by decide) (hb_ 6 (by decide)) rfl fun _ h => h
                have s50 := sv_ e50
                have hJ := hI.j
                exact op_keep hI (i := 7) (jk_ hJ (by decide)) (hrun := gs_)
              | 8, _ =>
                intro b a wq hI hbi_ hb_ hoff_
                have e51 := hI.new 51 7 (by decide) (hb_ 7 (by decide)) rfl fun _ h => h
                have s51 := sv_ e51
                have hJ := hI.j
                exact op_keep hI (i := 8) (jk_ hJ (by decide)) (hrun := gs_)
              | 9, _ =>
                intro b a wq hI hbi_ hb_ hoff_
                have e52 := hI.new 52 8 (by decide) (hb_ 8 (by decide)) rfl fun _ h => h
                have s52 := sv_ e52
                have hJ := hI.j
                exact op_keep hI (i := 9) (jk_ hJ (by decide)) (hrun := gs_)
              | 10, _ =>
                intro b a wq hI hbi_ hb_ hoff_
                have e53 := hI.new 53 9 (by decide) (hb_ 9 (by decide)) rfl fun _ h => h
                have s53 := sv_ e53
                have hJ := hI.j
                obtain ⟨HBq, qxb, qfb, qbb, qrb, qs, qq6, qp9⟩ := j0_ hJ (hoff_ 27 (by decide))
                obtain ⟨cxb_0, cxb_1, cxb_2, cxb_3, cxb_4, cxb_5, cxb_6, cxb_7, cxb_8, cxb_9⟩ := cells10 qxb.out; 
                exact op_keep hI (i := 10) (jk_ hJ (by decide)) (hrun := gs_)
              | 11, _ =>
                intro b a wq hI hbi_ hb_ hoff_
                have e4 : a.eval (.tmp 4) = .int .i64 i := hI.old 4 (by decide) rfl
                have s4 := sv_ e4
                have hJ := hI.j
                exact op_keep hI (i := 11) (jk_ hJ (by decide)) (hrun := gs_)
              | 12, _ =>
                intro b a wq hI hbi_ hb_ hoff_
                have e54 := hI.new 54 10 (by decide) (hb_ 10 (by decide)) rfl fun _ h => h
                have s54 := sv_ e54
                have e55 := hI.new 55 11 (by decide) (hb_ 11 (by decide)) rfl fun _ h => h
                have s55 := sv_ e55
                have hJ := hI.j
                obtain ⟨HBq, qxb, qfb, qbb, qrb, qs, qq6, qp9⟩ := j0_ hJ (hoff_ 27 (by decide))
                obtain ⟨cxb_0, cxb_1, cxb_2, cxb_3, cxb_4, cxb_5, cxb_6, cxb_7, cxb_8, cxb_9⟩ := cells10 qxb.out; 
                obtain ⟨cfb_0, dfb_0⟩ := Row.cells qfb.out i hi0 hi'; 
                obtain ⟨cs_0, cs_1, cs_2, cs_3⟩ := cells4 qs.out; 
                obtain ⟨cq6_0, cq6_1⟩ := cells2 qq6.out; 
                obtain ⟨cp9_0, cp9_1⟩ := cells2 qp9.out; 
                exact op_keep hI (i := 12) (jk_ hJ (by decide)) (hrun := gs_)
              | 13, _ =>
                intro b a wq hI hbi_ hb_ hoff_
                have e56 := hI.new 56 12 (by decide) (hb_ 12 (by decide)) rfl fun _ h => h
                have s56 := sv_ e56
                have hJ := hI.j
                obtain ⟨HBq, qxb, qfb, qbb, qrb, qs, qq6, qp9⟩ := j0_ hJ (hoff_ 27 (by decide))
                obtain ⟨cfb_0, dfb_0⟩ := Row.cells qfb.out i hi0 hi'; 
                exact op_keep hI (i := 13) (jk_ hJ (by decide)) (hrun := gs_)
              | 14, _ =>
                intro b a wq hI hbi_ hb_ hoff_
                have e9 : a.eval (.tmp 9) = .pointer (some ⟨p9, 0, none⟩) := hI.old 9 (by decide) rfl
                have s9 := sv_ e9
                have hJ := hI.j
                exact op_keep hI (i := 14) (jk_ hJ (by decide)) (hrun := gs_)
              | 15, _ =>
                intro b a wq hI hbi_ hb_ hoff_
                have e58 := hI.new 58 14 (by decide) (hb_ 14 (by decide)) rfl fun _ h => h
                have s58 := sv_ e58
                have hJ := hI.j
                obtain ⟨HBq, qxb, qfb, qbb, qrb, qs, qq6, qp9⟩ := j0_ hJ (hoff_ 27 (by decide))
                obtain ⟨cp9_0, cp9_1⟩ := cells2 qp9.out; 
                exact op_keep hI (i := 15) (jk_ hJ (by decide)) (hrun := gs_)
              | 16, _ =>
                intro b a wq hI hbi_ hb_ hoff_
                have e6 : a.eval (.tmp 6) = .pointer (some ⟨q6, 0, none⟩) := hI.old 6 (by decide) rfl
                have s6 := sv_ e6
                have hJ := hI.j
                exact op_keep hI (i := 16) (jk_ hJ (by decide)) (hrun := gs_)
              | 17, _ =>
                intro b a wq hI hbi_ hb_ hoff_
                have e60 := hI.new 60 16 (by decide) (hb_ 16 (by decide)) rfl fun _ h => h
                have s60 := sv_ e60
                have hJ := hI.j
                obtain ⟨HBq, qxb, qfb, qbb, qrb, qs, qq6, qp9⟩ := j0_ hJ (hoff_ 27 (by decide))
                obtain ⟨cq6_0, cq6_1⟩ := cells2 qq6.out; 
                exact op_keep hI (i := 17) (jk_ hJ (by decide)) (hrun := gs_)
              | 18, _ =>
                intro b a wq hI hbi_ hb_ hoff_
                have e59 := hI.new 59 15 (by decide) (hb_ 15 (by decide)) rfl fun _ h => h
                have s59 := sv_ e59
                have e61 := hI.new 61 17 (by decide) (hb_ 17 (by decide)) rfl fun _ h => h
                have s61 := sv_ e61
                have hJ := hI.j
                obtain ⟨HBq, qxb, qfb, qbb, qrb, qs, qq6, qp9⟩ := j0_ hJ (hoff_ 27 (by decide))
                refine ⟨_, rfl, rfl, fun K hK => ?_⟩
                refine goes_ Try.func152 (by kernel_rfl) rfl #[.int .i64 (rd_T32 B' i).f0, .int .i64 q.f0] rfl rfl rfl (by simp [e59, e61]) ?_
                refine (down_any ((rd_T32 B' i).f0) q.f0 wq).mono ?_
                rintro e w2 ⟨rfl, hb2⟩
                exact ⟨_, rfl, hK _ _ (j0_up (by decide) (hoff_ 27 (by decide)) ⟨ap_b hb2 HBq, blk_b hb2 qxb, row_b hb2 qfb, row_b hb2 qbb, row_b hb2 qrb, blk_b hb2 qs, blk_b hb2 qq6, blk_b hb2 qp9⟩) (fun _ _ h => h) rfl⟩
              | 19, _ =>
                intro b a wq hI hbi_ hb_ hoff_
                have e9 : a.eval (.tmp 9) = .pointer (some ⟨p9, 0, none⟩) := hI.old 9 (by decide) rfl
                have s9 := sv_ e9
                have hJ := hI.j
                exact op_keep hI (i := 19) (jk_ hJ (by decide)) (hrun := gs_)
              | 20, _ =>
                intro b a wq hI hbi_ hb_ hoff_
                have e63 := hI.new 63 19 (by decide) (hb_ 19 (by decide)) rfl fun _ h => h
                have s63 := sv_ e63
                have hJ := hI.j
                obtain ⟨HBq, qxb, qfb, qbb, qrb, qs, qq6, qp9⟩ := j0_ hJ (hoff_ 27 (by decide))
                obtain ⟨cp9_0, cp9_1⟩ := cells2 qp9.out; 
                exact op_keep hI (i := 20) (jk_ hJ (by decide)) (hrun := gs_)
              | 21, _ =>
                intro b a wq hI hbi_ hb_ hoff_
                have e6 : a.eval (.tmp 6) = .pointer (some ⟨q6, 0, none⟩) := hI.old 6 (by decide) rfl
                have s6 := sv_ e6
                have hJ := hI.j
                exact op_keep hI (i := 21) (jk_ hJ (by decide)) (hrun := gs_)
              | 22, _ =>
                intro b a wq hI hbi_ hb_ hoff_
                have e65 := hI.new 65 21 (by decide) (hb_ 21 (by decide)) rfl fun _ h => h
                have s65 := sv_ e65
                have hJ := hI.j
                obtain ⟨HBq, qxb, qfb, qbb, qrb, qs, qq6, qp9⟩ := j0_ hJ (hoff_ 27 (by decide))
                obtain ⟨cq6_0, cq6_1⟩ := cells2 qq6.out; 
                exact op_keep hI (i := 22) (jk_ hJ (by decide)) (hrun := gs_)
              | 23, _ =>
                intro b a wq hI hbi_ hb_ hoff_
                have e64 := hI.new 64 20 (by decide) (hb_ 20 (by decide)) rfl fun _ h => h
                have s64 := sv_ e64
                have e66 := hI.new 66 22 (by decide) (hb_ 22 (by decide)) rfl fun _ h => h
                have s66 := sv_ e66
                have hJ := hI.j
                obtain ⟨HBq, qxb, qfb, qbb, qrb, qs, qq6, qp9⟩ := j0_ hJ (hoff_ 27 (by decide))
                refine ⟨_, rfl, rfl, fun K hK => ?_⟩
                refine goes_ Try.func153 (by kernel_rfl) rfl #[.int .i64 (rd_T32 B' i).f1, .int .i64 q.f1] rfl rfl rfl (by simp [e64, e66]) ?_
                refine (up_any ((rd_T32 B' i).f1) q.f1 wq).mono ?_
                rintro e w2 ⟨rfl, hb2⟩
                exact ⟨_, rfl, hK _ _ (j0_up (by decide) (hoff_ 27 (by decide)) ⟨ap_b hb2 HBq, blk_b hb2 qxb, row_b hb2 qfb, row_b hb2 qbb, row_b hb2 qrb, blk_b hb2 qs, blk_b hb2 qq6, blk_b hb2 qp9⟩) (fun _ _ h => h) rfl⟩
              | 24, _ =>
                intro b a wq hI hbi_ hb_ hoff_
                have e62 := hI.new 62 18 (by decide) (hb_ 18 (by decide)) rfl fun _ h => h
                have s62 := sv_ e62
                have e67 := hI.new 67 23 (by decide) (hb_ 23 (by decide)) rfl fun _ h => h
                have s67 := sv_ e67
                have hJ := hI.j
                exact op_keep hI (i := 24) (jk_ hJ (by decide)) (hrun := gs_)
              | 25, _ =>
                intro b a wq hI hbi_ hb_ hoff_
                have e57 := hI.new 57 13 (by decide) (hb_ 13 (by decide)) rfl fun _ h => h
                have s57 := sv_ e57
                have e68 := hI.new 68 24 (by decide) (hb_ 24 (by decide)) rfl fun _ h => h
                have s68 := sv_ e68
                have hJ := hI.j
                obtain ⟨HBq, qxb, qfb, qbb, qrb, qs, qq6, qp9⟩ := j0_ hJ (hoff_ 27 (by decide))
                refine ⟨_, rfl, rfl, fun K hK => ?_⟩
                refine goes_ Try.func128 (by kernel_rfl) rfl #[.agg #[.int .i64 (rd_T32 (F') i).f0, .int .i64 (rd_T32 (F') i).f1], .agg #[.int .i64 (down ((rd_T32 B' i).f0) q.f0), .int .i64 (up_ ((rd_T32 B' i).f1) q.f1)]] rfl rfl rfl (by simp [e57, e68]) ?_
                refine (plus_any ⟨(rd_T32 (F') i).f0, (rd_T32 (F') i).f1⟩ ⟨(down ((rd_T32 B' i).f0) q.f0), (up_ ((rd_T32 B' i).f1) q.f1)⟩ wq).mono ?_
                rintro e w2 ⟨rfl, hb2⟩
                exact ⟨_, rfl, hK _ _ (j0_up (by decide) (hoff_ 27 (by decide)) ⟨ap_b hb2 HBq, blk_b hb2 qxb, row_b hb2 qfb, row_b hb2 qbb, row_b hb2 qrb, blk_b hb2 qs, blk_b hb2 qq6, blk_b hb2 qp9⟩) (fun _ _ h => h) rfl⟩
              | 26, _ =>
                intro b a wq hI hbi_ hb_ hoff_
                have e48 := hI.new 48 4 (by decide) (hb_ 4 (by decide)) rfl fun _ h => h
                have s48 := sv_ e48
                have e49 := hI.new 49 5 (by decide) (hb_ 5 (by decide)) rfl fun _ h => h
                have s49 := sv_ e49
                have hJ := hI.j
                obtain ⟨HBq, qxb, qfb, qbb, qrb, qs, qq6, qp9⟩ := j0_ hJ (hoff_ 27 (by decide))
                obtain ⟨cxb_0, cxb_1, cxb_2, cxb_3, cxb_4, cxb_5, cxb_6, cxb_7, cxb_8, cxb_9⟩ := cells10 qxb.out; 
                obtain ⟨cfb_0, dfb_0⟩ := Row.cells qfb.out i hi0 hi'; 
                obtain ⟨cs_0, cs_1, cs_2, cs_3⟩ := cells4 qs.out; 
                obtain ⟨cq6_0, cq6_1⟩ := cells2 qq6.out; 
                obtain ⟨cp9_0, cp9_1⟩ := cells2 qp9.out; 
                exact op_keep hI (i := 26) (jk_ hJ (by decide)) (hrun := gs_)
              | 27, _ =>
                intro b a wq hI hbi_ hb_ hoff_
                have e70 := hI.new 70 26 (by decide) (hb_ 26 (by decide)) rfl fun _ h => h
                have s70 := sv_ e70
                have e69 := hI.new 69 25 (by decide) (hb_ 25 (by decide)) rfl fun _ h => h
                have s69 := sv_ e69
                have hJ := hI.j
                obtain ⟨HBq, qxb, qfb, qbb, qrb, qs, qq6, qp9⟩ := j0_ hJ hbi_
                obtain ⟨cxb_0, cxb_1, cxb_2, cxb_3, cxb_4, cxb_5, cxb_6, cxb_7, cxb_8, cxb_9⟩ := cells10 qxb.out; 
                obtain ⟨cfb_0, dfb_0⟩ := Row.cells qfb.out i hi0 hi'; 
                obtain ⟨cs_0, cs_1, cs_2, cs_3⟩ := cells4 qs.out; 
                obtain ⟨cq6_0, cq6_1⟩ := cells2 qq6.out; 
                obtain ⟨cp9_0, cp9_1⟩ := cells2 qp9.out; 
                refine ⟨_, rfl, rfl, fun K hK => ?_⟩
                obtain ⟨w2, hrun2, hrow2, hg2⟩ := Row.store (P := Try.prog) (by kernel_rfl) qfb.out (i) (hi0) (hi') ((wrap64 ((rd_T32 (F') i).f0 + (down ((rd_T32 B' i).f0) q.f0)))) ((wrap64 ((rd_T32 (F') i).f1 + (up_ ((rd_T32 B' i).f1) q.f1))))
                refine skip_ rfl rfl (w1 := w2) (by unfold execOp; simp [e70, e69, hrun2]) (hK undef _ (j1_up ⟨ap_g hg2 HBq (Or.inr (Or.inl rfl)), blk_g hg2 qxb (by first | exact N_xb_fb.out | exact N_fb_xb.out.symm), ⟨hrow2⟩, row_g hg2 qbb (by first | exact N_bb_fb.out | exact N_fb_bb.out.symm), row_g hg2 qrb (by first | exact N_rb_fb.out | exact N_fb_rb.out.symm), blk_g hg2 qs (by first | exact N_s_fb.out | exact N_fb_s.out.symm), blk_g hg2 qq6 (by first | exact N_q6_fb.out | exact N_fb_q6.out.symm), blk_g hg2 qp9 (by first | exact N_p9_fb.out | exact N_fb_p9.out.symm)⟩) (fun _ _ h => h) trivial)
              | o_ + 28, hi => exact absurd hi (by omega)
            intro vs wn b_ hall hJ hT
            replace hJ := j1_ hJ (hall 27 (by decide))
            obtain ⟨HJ0, HT0⟩ : Aside0 _ ∧ Aside0 _ := ⟨⟨hJ⟩, ⟨hT⟩⟩
            clear hall hJ hT
            simp only [fillAll, show List.range 28 = [0, 1, 2, 3, 4, 5, 6, 7, 8, 9, 10, 11, 12, 13, 14, 15, 16, 17, 18, 19, 20, 21, 22, 23, 24, 25, 26, 27] from rfl]
            rw [show vs 0 = _ from HT0.out 0 (by decide) (by decide), show vs 1 = _ from HT0.out 1 (by decide) (by decide), show vs 2 = _ from HT0.out 2 (by decide) (by decide), show vs 3 = _ from HT0.out 3 (by decide) (by decide), show vs 4 = _ from HT0.out 4 (by decide) (by decide), show vs 5 = _ from HT0.out 5 (by decide) (by decide), show vs 6 = _ from HT0.out 6 (by decide) (by decide), show vs 7 = _ from HT0.out 7 (by decide) (by decide), show vs 8 = _ from HT0.out 8 (by decide) (by decide), show vs 9 = _ from HT0.out 9 (by decide) (by decide), show vs 10 = _ from HT0.out 10 (by decide) (by decide), show vs 11 = _ from HT0.out 11 (by decide) (by decide), show vs 12 = _ from HT0.out 12 (by decide) (by decide), show vs 13 = _ from HT0.out 13 (by decide) (by decide), show vs 14 = _ from HT0.out 14 (by decide) (by decide), show vs 15 = _ from HT0.out 15 (by decide) (by decide), show vs 16 = _ from HT0.out 16 (by decide) (by decide), show vs 17 = _ from HT0.out 17 (by decide) (by decide), show vs 18 = _ from HT0.out 18 (by decide) (by decide), show vs 19 = _ from HT0.out 19 (by decide) (by decide), show vs 20 = _ from HT0.out 20 (by decide) (by decide), show vs 21 = _ from HT0.out 21 (by decide) (by decide), show vs 22 = _ from HT0.out 22 (by decide) (by decide), show vs 23 = _ from HT0.out 23 (by decide) (by decide), show vs 24 = _ from HT0.out 24 (by decide) (by decide), show vs 25 = _ from HT0.out 25 (by decide) (by decide), show vs 26 = _ from HT0.out 26 (by decide) (by decide)]
            simp only [Act.put, List.setIfInBounds_toArray, List.set_cons_zero, List.set_cons_succ]
            clear HB Bxb Bfb Bbb Brb Bs Bq6 Bp9
            obtain ⟨HB, Bxb, Bfb, Bbb, Brb, Bs, Bq6, Bp9⟩ := HJ0.out
            clear HJ0 HT0
            (try clear cxb_0 cxb_1 cxb_2 cxb_3 cxb_4 cxb_5 cxb_6 cxb_7 cxb_8 cxb_9); (try clear cfb_0 dfb_0); (try clear cs_0 cs_1 cs_2 cs_3); (try clear cq6_0 cq6_1); (try clear cp9_0 cp9_1)
            go_wp2
            refine region_ri (n := 21) (B := [0, 1, 3, 7, 15, 0, 0, 64, 0, 256, 768, 1984, 0, 4096, 0, 16384, 49152, 131008, 262080, 524287, 1048575]) (fun o_ => match o_ with | 0 => some 71 | 1 => some 72 | 2 => some 73 | 3 => some 74 | 4 => some 75 | 5 => some 76 | 6 => some 77 | 7 => some 78 | 8 => some 79 | 9 => some 80 | 10 => some 81 | 11 => some 82 | 12 => some 83 | 13 => some 84 | 14 => some 85 | 15 => some 86 | 16 => some 87 | 17 => some 88 | 18 => some 89 | 19 => some 90 | 20 => none | _ => none) (fun o_ q_ w' => match o_ with | 0 => q_ = .pointer (some ⟨xb, 0, none⟩) | 1 => q_ = .pointer (some ⟨xb, 0, none⟩) | 2 => q_ = .pointer (some ⟨xb, 5, none⟩) | 3 => q_ = .pointer (some ⟨xb, 6, none⟩) | 4 => q_ = .slice (some ⟨bb, 0, none⟩) l0.length cB | 5 => q_ = .int .i64 i | 6 => q_ = .pointer (some ⟨p9, 0, none⟩) | 7 => q_ = .int .i64 (rd_T32 B' i).f0 | 8 => q_ = .pointer (some ⟨q6, 1, none⟩) | 9 => q_ = .int .i64 q.f1 | 10 => q_ = .int .i64 (wrap64 (1000000 - q.f1)) | 11 => q_ = .int .i64 (down ((rd_T32 B' i).f0) ((wrap64 (1000000 - q.f1)))) | 12 => q_ = .pointer (some ⟨p9, 1, none⟩) | 13 => q_ = .int .i64 (rd_T32 B' i).f1 | 14 => q_ = .pointer (some ⟨q6, 0, none⟩) | 15 => q_ = .int .i64 q.f0 | 16 => q_ = .int .i64 (wrap64 (1000000 - q.f0)) | 17 => q_ = .int .i64 (up_ ((rd_T32 B' i).f1) ((wrap64 (1000000 - q.f0)))) | 18 => q_ = .agg #[.int .i64 (down ((rd_T32 B' i).f0) ((wrap64 (1000000 - q.f1)))), .int .i64 (up_ ((rd_T32 B' i).f1) ((wrap64 (1000000 - q.f0))))] | 19 => q_ = .pointer (some ⟨bb, i.toNat * 2, none⟩) | _ => True) (fun b w' => if b 20 = true then (Aside0 (Apart xb fb bb rb w w') ∧ Aside0 (w'.heap[xb]? = some (.cells #[.slice (some ad) l0.length c0, .slice A1 l1.length c1, .slice A2 l2.length c2, .slice A3 l3.length c3, .slice A4 l4.length c4, .slice (some ⟨fb, 0, none⟩) l0.length cF, .slice (some ⟨bb, 0, none⟩) l0.length cB, vR, .int .i64 mo, .bool fl] 119 (0, 0))) ∧ Aside0 (Row w' fb (.slice (some ⟨fb, 0, none⟩) l0.length cF) (((F').set i.toNat ⟨(wrap64 ((rd_T32 (F') i).f0 + (down ((rd_T32 B' i).f0) q.f0))), (wrap64 ((rd_T32 (F') i).f1 + (up_ ((rd_T32 B' i).f1) q.f1)))⟩))) ∧ Aside0 (Row w' bb (.slice (some ⟨bb, 0, none⟩) l0.length cB) (((B').set i.toNat ⟨(down ((rd_T32 B' i).f0) ((wrap64 (1000000 - q.f1)))), (up_ ((rd_T32 B' i).f1) ((wrap64 (1000000 - q.f0))))⟩))) ∧ Aside0 (Row w' rb (vR) (Rm)) ∧ Aside0 (w'.heap[s]? = some (.cells #[.int .i64 tk, .int .i64 he, .slice As sh.length cs, .bool fs] 45 (0, 0)))) else (Aside0 (Apart xb fb bb rb w w') ∧ Aside0 (w'.heap[xb]? = some (.cells #[.slice (some ad) l0.length c0, .slice A1 l1.length c1, .slice A2 l2.length c2, .slice A3 l3.length c3, .slice A4 l4.length c4, .slice (some ⟨fb, 0, none⟩) l0.length cF, .slice (some ⟨bb, 0, none⟩) l0.length cB, vR, .int .i64 mo, .bool fl] 119 (0, 0))) ∧ Aside0 (Row w' fb (.slice (some ⟨fb, 0, none⟩) l0.length cF) (((F').set i.toNat ⟨(wrap64 ((rd_T32 (F') i).f0 + (down ((rd_T32 B' i).f0) q.f0))), (wrap64 ((rd_T32 (F') i).f1 + (up_ ((rd_T32 B' i).f1) q.f1)))⟩))) ∧ Aside0 (Row w' bb (.slice (some ⟨bb, 0, none⟩) l0.length cB) (B')) ∧ Aside0 (Row w' rb (vR) (Rm)) ∧ Aside0 (w'.heap[s]? = some (.cells #[.int .i64 tk, .int .i64 he, .slice As sh.length cs, .bool fs] 45 (0, 0))) ∧ Aside0 (w'.heap[q6]? = some (.cells #[.int .i64 q.f0, .int .i64 q.f1] 32 (0, 0))) ∧ Aside0 (w'.heap[p9]? = some (.cells #[.int .i64 (rd_T32 B' i).f0, .int .i64 (rd_T32 B' i).f1] 32 (0, 0))))) rfl rfl (by kernel_rfl) (by kernel_rfl) (by kernel_rfl) (by show (if false = true then _ else _); rw [if_neg (by decide)]; exact ⟨ap_b (below_drew (Below.refl _ _)) HB, blk_b (below_drew (Below.refl _ _)) Bxb, row_b (below_drew (Below.refl _ _)) Bfb, row_b (below_drew (Below.refl _ _)) Bbb, row_b (below_drew (Below.refl _ _)) Brb, blk_b (below_drew (Below.refl _ _)) Bs, blk_b (below_drew (Below.refl _ _)) Bq6, blk_b (below_drew (Below.refl _ _)) Bp9⟩) ?_ ?_
            · intro o_ hi
              match o_, hi with
              | 0, _ =>
                intro b a wq hI hbi_ hb_ hoff_
                have e0 : a.eval (.tmp 0) = .pointer (some ⟨xb, 0, none⟩) := hI.old 0 (by decide) rfl
                have s0 := sv_ e0
                have hJ := hI.j
                exact op_keep hI (i := 0) (jk_ hJ (by decide)) (hrun := gs_)
              | 1, _ =>
                intro b a wq hI hbi_ hb_ hoff_
                have e71 := hI.new 71 0 (by decide) (hb_ 0 (by decide)) rfl fun _ h => h
                have s71 := sv_ e71
                have hJ := hI.j
                exact op_keep hI (i := 1) (jk_ hJ (by decide)) (hrun := gs_)
              | 2, _ =>
                intro b a wq hI hbi_ hb_ hoff_
                have e72 := hI.new 72 1 (by decide) (hb_ 1 (by decide)) rfl fun _ h => h
                have s72 := sv_ e72
                have hJ := hI.j
                exact op_keep hI (i := 2) (jk_ hJ (by decide)) (hrun := gs_)
              | 3, _ =>
                intro b a wq hI hbi_ hb_ hoff_
                have e73 := hI.new 73 2 (by decide) (hb_ 2 (by decide)) rfl fun _ h => h
                have s73 := sv_ e73
                have hJ := hI.j
                exact op_keep hI (i := 3) (jk_ hJ (by decide)) (hrun := gs_)
              | 4, _ =>
                intro b a wq hI hbi_ hb_ hoff_
                have e74 := hI.new 74 3 (by decide) (hb_ 3 (by decide)) rfl fun _ h => h
                have s74 := sv_ e74
                have hJ := hI.j
                obtain ⟨HBq, qxb, qfb, qbb, qrb, qs, qq6, qp9⟩ := j0_ hJ (hoff_ 20 (by decide))
                obtain ⟨cxb_0, cxb_1, cxb_2, cxb_3, cxb_4, cxb_5, cxb_6, cxb_7, cxb_8, cxb_9⟩ := cells10 qxb.out; 
                exact op_keep hI (i := 4) (jk_ hJ (by decide)) (hrun := gs_)
              | 5, _ =>
                intro b a wq hI hbi_ hb_ hoff_
                have e4 : a.eval (.tmp 4) = .int .i64 i := hI.old 4 (by decide) rfl
                have s4 := sv_ e4
                have hJ := hI.j
                exact op_keep hI (i := 5) (jk_ hJ (by decide)) (hrun := gs_)
              | 6, _ =>
                intro b a wq hI hbi_ hb_ hoff_
                have e9 : a.eval (.tmp 9) = .pointer (some ⟨p9, 0, none⟩) := hI.old 9 (by decide) rfl
                have s9 := sv_ e9
                have hJ := hI.j
                exact op_keep hI (i := 6) (jk_ hJ (by decide)) (hrun := gs_)
              | 7, _ =>
                intro b a wq hI hbi_ hb_ hoff_
                have e77 := hI.new 77 6 (by decide) (hb_ 6 (by decide)) rfl fun _ h => h
                have s77 := sv_ e77
                have hJ := hI.j
                obtain ⟨HBq, qxb, qfb, qbb, qrb, qs, qq6, qp9⟩ := j0_ hJ (hoff_ 20 (by decide))
                obtain ⟨cp9_0, cp9_1⟩ := cells2 qp9.out; 
                exact op_keep hI (i := 7) (jk_ hJ (by decide)) (hrun := gs_)
              | 8, _ =>
                intro b a wq hI hbi_ hb_ hoff_
                have e6 : a.eval (.tmp 6) = .pointer (some ⟨q6, 0, none⟩) := hI.old 6 (by decide) rfl
                have s6 := sv_ e6
                have hJ := hI.j
                exact op_keep hI (i := 8) (jk_ hJ (by decide)) (hrun := gs_)
              | 9, _ =>
                intro b a wq hI hbi_ hb_ hoff_
                have e79 := hI.new 79 8 (by decide) (hb_ 8 (by decide)) rfl fun _ h => h
                have s79 := sv_ e79
                have hJ := hI.j
                obtain ⟨HBq, qxb, qfb, qbb, qrb, qs, qq6, qp9⟩ := j0_ hJ (hoff_ 20 (by decide))
                obtain ⟨cq6_0, cq6_1⟩ := cells2 qq6.out; 
                exact op_keep hI (i := 9) (jk_ hJ (by decide)) (hrun := gs_)
              | 10, _ =>
                intro b a wq hI hbi_ hb_ hoff_
                have e80 := hI.new 80 9 (by decide) (hb_ 9 (by decide)) rfl fun _ h => h
                have s80 := sv_ e80
                have hJ := hI.j
                exact op_keep hI (i := 10) (jk_ hJ (by decide)) (hrun := gs_)
              | 11, _ =>
                intro b a wq hI hbi_ hb_ hoff_
                have e78 := hI.new 78 7 (by decide) (hb_ 7 (by decide)) rfl fun _ h => h
                have s78 := sv_ e78
                have e81 := hI.new 81 10 (by decide) (hb_ 10 (by decide)) rfl fun _ h => h
                have s81 := sv_ e81
                have hJ := hI.j
                obtain ⟨HBq, qxb, qfb, qbb, qrb, qs, qq6, qp9⟩ := j0_ hJ (hoff_ 20 (by decide))
                refine ⟨_, rfl, rfl, fun K hK => ?_⟩
                refine goes_ Try.func152 (by kernel_rfl) rfl #[.int .i64 (rd_T32 B' i).f0, .int .i64 (wrap64 (1000000 - q.f1))] rfl rfl rfl (by simp [e78, e81]) ?_
                refine (down_any ((rd_T32 B' i).f0) ((wrap64 (1000000 - q.f1))) wq).mono ?_
                rintro e w2 ⟨rfl, hb2⟩
                exact ⟨_, rfl, hK _ _ (j0_up (by decide) (hoff_ 20 (by decide)) ⟨ap_b hb2 HBq, blk_b hb2 qxb, row_b hb2 qfb, row_b hb2 qbb, row_b hb2 qrb, blk_b hb2 qs, blk_b hb2 qq6, blk_b hb2 qp9⟩) (fun _ _ h => h) rfl⟩
              | 12, _ =>
                intro b a wq hI hbi_ hb_ hoff_
                have e9 : a.eval (.tmp 9) = .pointer (some ⟨p9, 0, none⟩) := hI.old 9 (by decide) rfl
                have s9 := sv_ e9
                have hJ := hI.j
                exact op_keep hI (i := 12) (jk_ hJ (by decide)) (hrun := gs_)
              | 13, _ =>
                intro b a wq hI hbi_ hb_ hoff_
                have e83 := hI.new 83 12 (by decide) (hb_ 12 (by decide)) rfl fun _ h => h
                have s83 := sv_ e83
                have hJ := hI.j
                obtain ⟨HBq, qxb, qfb, qbb, qrb, qs, qq6, qp9⟩ := j0_ hJ (hoff_ 20 (by decide))
                obtain ⟨cp9_0, cp9_1⟩ := cells2 qp9.out; 
                exact op_keep hI (i := 13) (jk_ hJ (by decide)) (hrun := gs_)
              | 14, _ =>
                intro b a wq hI hbi_ hb_ hoff_
                have e6 : a.eval (.tmp 6) = .pointer (some ⟨q6, 0, none⟩) := hI.old 6 (by decide) rfl
                have s6 := sv_ e6
                have hJ := hI.j
                exact op_keep hI (i := 14) (jk_ hJ (by decide)) (hrun := gs_)
              | 15, _ =>
                intro b a wq hI hbi_ hb_ hoff_
                have e85 := hI.new 85 14 (by decide) (hb_ 14 (by decide)) rfl fun _ h => h
                have s85 := sv_ e85
                have hJ := hI.j
                obtain ⟨HBq, qxb, qfb, qbb, qrb, qs, qq6, qp9⟩ := j0_ hJ (hoff_ 20 (by decide))
                obtain ⟨cq6_0, cq6_1⟩ := cells2 qq6.out; 
                exact op_keep hI (i := 15) (jk_ hJ (by decide)) (hrun := gs_)
              | 16, _ =>
                intro b a wq hI hbi_ hb_ hoff_
                have e86 := hI.new 86 15 (by decide) (hb_ 15 (by decide)) rfl fun _ h => h
                have s86 := sv_ e86
                have hJ := hI.j
                exact op_keep hI (i := 16) (jk_ hJ (by decide)) (hrun := gs_)
              | 17, _ =>
                intro b a wq hI hbi_ hb_ hoff_
                have e84 := hI.new 84 13 (by decide) (hb_ 13 (by decide)) rfl fun _ h => h
                have s84 := sv_ e84
                have e87 := hI.new 87 16 (by decide) (hb_ 16 (by decide)) rfl fun _ h => h
                have s87 := sv_ e87
                have hJ := hI.j
                obtain ⟨HBq, qxb, qfb, qbb, qrb, qs, qq6, qp9⟩ := j0_ hJ (hoff_ 20 (by decide))
                refine ⟨_, rfl, rfl, fun K hK => ?_⟩
                refine goes_ Try.func153 (by kernel_rfl) rfl #[.int .i64 (rd_T32 B' i).f1, .int .i64 (wrap64 (1000000 - q.f0))] rfl rfl rfl (by simp [e84, e87]) ?_
                refine (up_any ((rd_T32 B' i).f1) ((wrap64 (1000000 - q.f0))) wq).mono ?_
                rintro e w2 ⟨rfl, hb2⟩
                exact ⟨_, rfl, hK _ _ (j0_up (by decide) (hoff_ 20 (by decide)) ⟨ap_b hb2 HBq, blk_b hb2 qxb, row_b hb2 qfb, row_b hb2 qbb, row_b hb2 qrb, blk_b hb2 qs, blk_b hb2 qq6, blk_b hb2 qp9⟩) (fun _ _ h => h) rfl⟩
              | 18, _ =>
                intro b a wq hI hbi_ hb_ hoff_
                have e82 := hI.new 82 11 (by decide) (hb_ 11 (by decide)) rfl fun _ h => h
                have s82 := sv_ e82
                have e88 := hI.new 88 17 (by decide) (hb_ 17 (by decide)) rfl fun _ h => h
                have s88 := sv_ e88
                have hJ := hI.j
                exact op_keep hI (i := 18) (jk_ hJ (by decide)) (hrun := gs_)
              | 19, _ =>
                intro b a wq hI hbi_ hb_ hoff_
                have e75 := hI.new 75 4 (by decide) (hb_ 4 (by decide)) rfl fun _ h => h
                have s75 := sv_ e75
                have e76 := hI.new 76 5 (by decide) (hb_ 5 (by decide)) rfl fun _ h => h
                have s76 := sv_ e76
                have hJ := hI.j
                obtain ⟨HBq, qxb, qfb, qbb, qrb, qs, qq6, qp9⟩ := j0_ hJ (hoff_ 20 (by decide))
                obtain ⟨cxb_0, cxb_1, cxb_2, cxb_3, cxb_4, cxb_5, cxb_6, cxb_7, cxb_8, cxb_9⟩ := cells10 qxb.out; 
                obtain ⟨cs_0, cs_1, cs_2, cs_3⟩ := cells4 qs.out; 
                obtain ⟨cq6_0, cq6_1⟩ := cells2 qq6.out; 
                obtain ⟨cp9_0, cp9_1⟩ := cells2 qp9.out; 
                exact op_keep hI (i := 19) (jk_ hJ (by decide)) (hrun := gs_)
              | 20, _ =>
                intro b a wq hI hbi_ hb_ hoff_
                have e90 := hI.new 90 19 (by decide) (hb_ 19 (by decide)) rfl fun _ h => h
                have s90 := sv_ e90
                have e89 := hI.new 89 18 (by decide) (hb_ 18 (by decide)) rfl fun _ h => h
                have s89 := sv_ e89
                have hJ := hI.j
                obtain ⟨HBq, qxb, qfb, qbb, qrb, qs, qq6, qp9⟩ := j0_ hJ hbi_
                obtain ⟨cxb_0, cxb_1, cxb_2, cxb_3, cxb_4, cxb_5, cxb_6, cxb_7, cxb_8, cxb_9⟩ := cells10 qxb.out; 
                obtain ⟨cs_0, cs_1, cs_2, cs_3⟩ := cells4 qs.out; 
                obtain ⟨cq6_0, cq6_1⟩ := cells2 qq6.out; 
                obtain ⟨cp9_0, cp9_1⟩ := cells2 qp9.out; 
                refine ⟨_, rfl, rfl, fun K hK => ?_⟩
                obtain ⟨w2, hrun2, hrow2, hg2⟩ := Row.store (P := Try.prog) (by kernel_rfl) qbb.out (i) (hi0) (hi') ((down ((rd_T32 B' i).f0) ((wrap64 (1000000 - q.f1))))) ((up_ ((rd_T32 B' i).f1) ((wrap64 (1000000 - q.f0)))))
                refine skip_ rfl rfl (w1 := w2) (by unfold execOp; simp [e90, e89, hrun2]) (hK undef _ (j1_up ⟨ap_g hg2 HBq (Or.inr (Or.inr (Or.inl rfl))), blk_g hg2 qxb (by first | exact N_xb_bb.out | exact N_bb_xb.out.symm), row_g hg2 qfb (by first | exact N_fb_bb.out | exact N_bb_fb.out.symm), ⟨hrow2⟩, row_g hg2 qrb (by first | exact N_rb_bb.out | exact N_bb_rb.out.symm), blk_g hg2 qs (by first | exact N_s_bb.out | exact N_bb_s.out.symm)⟩) (fun _ _ h => h) trivial)
              | o_ + 21, hi => exact absurd hi (by omega)
            intro vs wm b_ hall hJ hT
            replace hJ := j1_ hJ (hall 20 (by decide))
            obtain ⟨HJ0, HT0⟩ : Aside0 _ ∧ Aside0 _ := ⟨⟨hJ⟩, ⟨hT⟩⟩
            clear hall hJ hT
            simp only [fillAll, show List.range 21 = [0, 1, 2, 3, 4, 5, 6, 7, 8, 9, 10, 11, 12, 13, 14, 15, 16, 17, 18, 19, 20] from rfl]
            rw [show vs 0 = _ from HT0.out 0 (by decide) (by decide), show vs 1 = _ from HT0.out 1 (by decide) (by decide), show vs 2 = _ from HT0.out 2 (by decide) (by decide), show vs 3 = _ from HT0.out 3 (by decide) (by decide), show vs 4 = _ from HT0.out 4 (by decide) (by decide), show vs 5 = _ from HT0.out 5 (by decide) (by decide), show vs 6 = _ from HT0.out 6 (by decide) (by decide), show vs 7 = _ from HT0.out 7 (by decide) (by decide), show vs 8 = _ from HT0.out 8 (by decide) (by decide), show vs 9 = _ from HT0.out 9 (by decide) (by decide), show vs 10 = _ from HT0.out 10 (by decide) (by decide), show vs 11 = _ from HT0.out 11 (by decide) (by decide), show vs 12 = _ from HT0.out 12 (by decide) (by decide), show vs 13 = _ from HT0.out 13 (by decide) (by decide), show vs 14 = _ from HT0.out 14 (by decide) (by decide), show vs 15 = _ from HT0.out 15 (by decide) (by decide), show vs 16 = _ from HT0.out 16 (by decide) (by decide), show vs 17 = _ from HT0.out 17 (by decide) (by decide), show vs 18 = _ from HT0.out 18 (by decide) (by decide), show vs 19 = _ from HT0.out 19 (by decide) (by decide)]
            simp only [Act.put, List.setIfInBounds_toArray, List.set_cons_zero, List.set_cons_succ]
            clear HB Bxb Bfb Bbb Brb Bs Bq6 Bp9
            obtain ⟨HB, Bxb, Bfb, Bbb, Brb, Bs⟩ := HJ0.out
            clear HJ0 HT0
            (try clear cxb_0 cxb_1 cxb_2 cxb_3 cxb_4 cxb_5 cxb_6 cxb_7 cxb_8 cxb_9); (try clear cs_0 cs_1 cs_2 cs_3); (try clear cq6_0 cq6_1); (try clear cp9_0 cp9_1)
            have hm3 := HM.out.1
            go_wp2
            go_roundg (l0.length - (i + 1).toNat)
            case measure => have := Hn.out; omega
            case rel => exact ⟨i + 1, _, _, by omega, rfl, by omega, rfl, ⟨by rw [HE.out, HD.out, relS, HQ.out]; rfl⟩, HB, Bxb, Bfb, Bbb, Brb, Bs⟩
          · have hb1 : (rd_T136 (rd_T36 l0 i).f3 j).f0 ≤ he := by omega
            have HQ1 : Aside0 (rateV he (rd_T36 l0 i).f3 ⟨0, 0⟩ = rateV he ((rd_T36 l0 i).f3.drop (j + 1).toNat) (rd_T136 (rd_T36 l0 i).f3 j).f1) := ⟨by rw [HQ0.out, HDj.out, rateV, if_neg hb]⟩
            clear hb
            have hn5 := HN5.out
            go_wp2_with (first | ((with_reducible refine gate_dst (N := 8) rfl ?_); go_must (refine box_ev (N := 8) (cs := #[.int .i64 0, .int .i64 0, .int .i64 0]) (t := 136) (h := ?_); intro p8 hgp8 w6 hbox hb; have GEp8 := ge_newx HB hgp8; have N_xb_p8 := ne_newx HX.out.1 HB hgp8; have N_fb_p8 := ne_newx HX.out.2.1 HB hgp8; have N_bb_p8 := ne_newx HX.out.2.2.1 HB hgp8; have N_rb_p8 := ne_newx HX.out.2.2.2 HB hgp8; have N_s_p8 := ne_new Bs hgp8; have N_p5_p8 := ne_new Bp5 hgp8; have N_q6_p8 := ne_new Bq6 hgp8; replace HB := ap_b hb HB; replace Bxb := blk_b hb Bxb; (try clear cxb_0 cxb_1 cxb_2 cxb_3 cxb_4 cxb_5 cxb_6 cxb_7 cxb_8 cxb_9); obtain ⟨cxb_0, cxb_1, cxb_2, cxb_3, cxb_4, cxb_5, cxb_6, cxb_7, cxb_8, cxb_9⟩ := cells10 Bxb.out; replace Bfb := row_b hb Bfb; replace Bbb := row_b hb Bbb; replace Brb := row_b hb Brb; replace Bs := blk_b hb Bs; (try clear cs_0 cs_1 cs_2 cs_3); obtain ⟨cs_0, cs_1, cs_2, cs_3⟩ := cells4 Bs.out; replace Bp5 := blk_b hb Bp5; (try clear cp5_0 cp5_1 cp5_2 cp5_3 cp5_4 cp5_5); obtain ⟨cp5_0, cp5_1, cp5_2, cp5_3, cp5_4, cp5_5⟩ := cells6 Bp5.out; replace Bq6 := blk_b hb Bq6; (try clear cq6_0 cq6_1); obtain ⟨cq6_0, cq6_1⟩ := cells2 Bq6.out; have Bp8 := Aside0.mk hbox; clear hbox; obtain ⟨cp8_0, cp8_1, cp8_2⟩ := cells3 Bp8.out; (try clear hb); clear hgp8)) | ((with_reducible refine gate_store (t := 136) (p := 8) rfl ?_); go_must (refine row_ev p8 #[.int .i64 (rd_T136 (rd_T36 l0 i).f3 j).f0, .int .i64 (rd_T136 (rd_T36 l0 i).f3 j).f1.f0, .int .i64 (rd_T136 (rd_T36 l0 i).f3 j).f1.f1] Bp8.out (h := ?_); intro w7 hbox ho_; replace HB := ap_o ho_ HB (Or.inr (Or.inr (Or.inr (Or.inr GEp8.out)))); replace Bxb := blk_o ho_ Bxb (by first | exact N_xb_p8.out | exact N_p8_xb.out.symm); (try clear cxb_0 cxb_1 cxb_2 cxb_3 cxb_4 cxb_5 cxb_6 cxb_7 cxb_8 cxb_9); obtain ⟨cxb_0, cxb_1, cxb_2, cxb_3, cxb_4, cxb_5, cxb_6, cxb_7, cxb_8, cxb_9⟩ := cells10 Bxb.out; replace Bfb := row_o ho_ Bfb (by first | exact N_fb_p8.out | exact N_p8_fb.out.symm); replace Bbb := row_o ho_ Bbb (by first | exact N_bb_p8.out | exact N_p8_bb.out.symm); replace Brb := row_o ho_ Brb (by first | exact N_rb_p8.out | exact N_p8_rb.out.symm); replace Bs := blk_o ho_ Bs (by first | exact N_s_p8.out | exact N_p8_s.out.symm); (try clear cs_0 cs_1 cs_2 cs_3); obtain ⟨cs_0, cs_1, cs_2, cs_3⟩ := cells4 Bs.out; replace Bp5 := blk_o ho_ Bp5 (by first | exact N_p5_p8.out | exact N_p8_p5.out.symm); (try clear cp5_0 cp5_1 cp5_2 cp5_3 cp5_4 cp5_5); obtain ⟨cp5_0, cp5_1, cp5_2, cp5_3, cp5_4, cp5_5⟩ := cells6 Bp5.out; replace Bq6 := blk_o ho_ Bq6 (by first | exact N_q6_p8.out | exact N_p8_q6.out.symm); (try clear cq6_0 cq6_1); obtain ⟨cq6_0, cq6_1⟩ := cells2 Bq6.out; replace Bp8 := Aside0.mk hbox; clear hbox ho_; (try clear cp8_0 cp8_1 cp8_2); obtain ⟨cp8_0, cp8_1, cp8_2⟩ := cells3 Bp8.out; )) | ((with_reducible refine gate_store (t := 32) (p := 6) rfl ?_); go_must (refine row_ev q6 #[.int .i64 (rd_T136 (rd_T36 l0 i).f3 j).f1.f0, .int .i64 (rd_T136 (rd_T36 l0 i).f3 j).f1.f1] Bq6.out (h := ?_); intro w8 hbox ho_; replace HB := ap_o ho_ HB (Or.inr (Or.inr (Or.inr (Or.inr GEq6.out)))); replace Bxb := blk_o ho_ Bxb (by first | exact N_xb_q6.out | exact N_q6_xb.out.symm); (try clear cxb_0 cxb_1 cxb_2 cxb_3 cxb_4 cxb_5 cxb_6 cxb_7 cxb_8 cxb_9); obtain ⟨cxb_0, cxb_1, cxb_2, cxb_3, cxb_4, cxb_5, cxb_6, cxb_7, cxb_8, cxb_9⟩ := cells10 Bxb.out; replace Bfb := row_o ho_ Bfb (by first | exact N_fb_q6.out | exact N_q6_fb.out.symm); replace Bbb := row_o ho_ Bbb (by first | exact N_bb_q6.out | exact N_q6_bb.out.symm); replace Brb := row_o ho_ Brb (by first | exact N_rb_q6.out | exact N_q6_rb.out.symm); replace Bs := blk_o ho_ Bs (by first | exact N_s_q6.out | exact N_q6_s.out.symm); (try clear cs_0 cs_1 cs_2 cs_3); obtain ⟨cs_0, cs_1, cs_2, cs_3⟩ := cells4 Bs.out; replace Bp5 := blk_o ho_ Bp5 (by first | exact N_p5_q6.out | exact N_q6_p5.out.symm); (try clear cp5_0 cp5_1 cp5_2 cp5_3 cp5_4 cp5_5); obtain ⟨cp5_0, cp5_1, cp5_2, cp5_3, cp5_4, cp5_5⟩ := cells6 Bp5.out; replace Bp8 := blk_o ho_ Bp8 (by first | exact N_p8_q6.out | exact N_q6_p8.out.symm); (try clear cp8_0 cp8_1 cp8_2); obtain ⟨cp8_0, cp8_1, cp8_2⟩ := cells3 Bp8.out; replace Bq6 := Aside0.mk hbox; clear hbox ho_; (try clear cq6_0 cq6_1); obtain ⟨cq6_0, cq6_1⟩ := cells2 Bq6.out; )))
            go_roundg ((rd_T36 l0 i).f3.length - (j + 1).toNat)
            case measure => have := Hnj.out; omega
            case rel => exact ⟨j + 1, (rd_T136 (rd_T36 l0 i).f3 j).f1, by omega, rfl, by omega, rfl, HQ1, ⟨(ap_r HB)⟩, ⟨Bxb.out⟩, ⟨(row_r Bfb)⟩, ⟨(row_r Bbb)⟩, ⟨(row_r Brb)⟩, ⟨Bs.out⟩, ⟨Bp5.out⟩, ⟨Bq6.out⟩⟩
        · have HQ : Aside0 (rateV he (rd_T36 l0 i).f3 ⟨0, 0⟩ = q) := ⟨by rw [HQ0.out, List.drop_eq_nil_of_le (by omega)]; rfl⟩
          obtain ⟨cbb_0, dbb_0⟩ := Row.cells Bbb.out i hi0 hi'; 
          go_wp2_with (first | ((with_reducible refine gate_dst (N := 9) rfl ?_); go_must (refine box_ev (N := 9) (cs := #[.int .i64 0, .int .i64 0]) (t := 32) (h := ?_); intro p9 hgp9 w9 hbox hb; have GEp9 := ge_newx HB hgp9; have N_xb_p9 := ne_newx HX.out.1 HB hgp9; have N_fb_p9 := ne_newx HX.out.2.1 HB hgp9; have N_bb_p9 := ne_newx HX.out.2.2.1 HB hgp9; have N_rb_p9 := ne_newx HX.out.2.2.2 HB hgp9; have N_s_p9 := ne_new Bs hgp9; have N_q6_p9 := ne_new Bq6 hgp9; replace HB := ap_b hb HB; replace Bxb := blk_b hb Bxb; (try clear cxb_0 cxb_1 cxb_2 cxb_3 cxb_4 cxb_5 cxb_6 cxb_7 cxb_8 cxb_9); obtain ⟨cxb_0, cxb_1, cxb_2, cxb_3, cxb_4, cxb_5, cxb_6, cxb_7, cxb_8, cxb_9⟩ := cells10 Bxb.out; replace Bfb := row_b hb Bfb; replace Bbb := row_b hb Bbb; (try clear cbb_0 dbb_0); obtain ⟨cbb_0, dbb_0⟩ := Row.cells Bbb.out i hi0 hi'; replace Brb := row_b hb Brb; replace Bs := blk_b hb Bs; (try clear cs_0 cs_1 cs_2 cs_3); obtain ⟨cs_0, cs_1, cs_2, cs_3⟩ := cells4 Bs.out; replace Bq6 := blk_b hb Bq6; (try clear cq6_0 cq6_1); obtain ⟨cq6_0, cq6_1⟩ := cells2 Bq6.out; have Bp9 := Aside0.mk hbox; clear hbox; obtain ⟨cp9_0, cp9_1⟩ := cells2 Bp9.out; (try clear hb); clear hgp9)) | ((with_reducible refine gate_store (t := 32) (p := 9) rfl ?_); go_must (refine row_ev p9 #[.int .i64 (rd_T32 B' i).f0, .int .i64 (rd_T32 B' i).f1] Bp9.out (h := ?_); intro w10 hbox ho_; replace HB := ap_o ho_ HB (Or.inr (Or.inr (Or.inr (Or.inr GEp9.out)))); replace Bxb := blk_o ho_ Bxb (by first | exact N_xb_p9.out | exact N_p9_xb.out.symm); (try clear cxb_0 cxb_1 cxb_2 cxb_3 cxb_4 cxb_5 cxb_6 cxb_7 cxb_8 cxb_9); obtain ⟨cxb_0, cxb_1, cxb_2, cxb_3, cxb_4, cxb_5, cxb_6, cxb_7, cxb_8, cxb_9⟩ := cells10 Bxb.out; replace Bfb := row_o ho_ Bfb (by first | exact N_fb_p9.out | exact N_p9_fb.out.symm); replace Bbb := row_o ho_ Bbb (by first | exact N_bb_p9.out | exact N_p9_bb.out.symm); (try clear cbb_0 dbb_0); obtain ⟨cbb_0, dbb_0⟩ := Row.cells Bbb.out i hi0 hi'; replace Brb := row_o ho_ Brb (by first | exact N_rb_p9.out | exact N_p9_rb.out.symm); replace Bs := blk_o ho_ Bs (by first | exact N_s_p9.out | exact N_p9_s.out.symm); (try clear cs_0 cs_1 cs_2 cs_3); obtain ⟨cs_0, cs_1, cs_2, cs_3⟩ := cells4 Bs.out; replace Bq6 := blk_o ho_ Bq6 (by first | exact N_q6_p9.out | exact N_p9_q6.out.symm); (try clear cq6_0 cq6_1); obtain ⟨cq6_0, cq6_1⟩ := cells2 Bq6.out; replace Bp9 := Aside0.mk hbox; clear hbox ho_; (try clear cp9_0 cp9_1); obtain ⟨cp9_0, cp9_1⟩ := cells2 Bp9.out; )))
          (try clear Bp5); (try clear Bp8)
          refine region_ri (n := 28) (B := [0, 1, 3, 7, 15, 0, 0, 64, 192, 448, 960, 0, 4032, 8128, 0, 16384, 0, 65536, 245760, 0, 524288, 0, 2097152, 8372224, 16760832, 33554368, 67108863, 134217727]) (fun o_ => match o_ with | 0 => some 44 | 1 => some 45 | 2 => some 46 | 3 => some 47 | 4 => some 48 | 5 => some 49 | 6 => some 50 | 7 => some 51 | 8 => some 52 | 9 => some 53 | 10 => some 54 | 11 => some 55 | 12 => some 56 | 13 => some 57 | 14 => some 58 | 15 => some 59 | 16 => some 60 | 17 => some 61 | 18 => some 62 | 19 => some 63 | 20 => some 64 | 21 => some 65 | 22 => some 66 | 23 => some 67 | 24 => some 68 | 25 => some 69 | 26 => some 70 | 27 => none | _ => none) (fun o_ q_ w' => match o_ with | 0 => q_ = .pointer (some ⟨xb, 0, none⟩) | 1 => q_ = .pointer (some ⟨xb, 0, none⟩) | 2 => q_ = .pointer (some ⟨xb, 5, none⟩) | 3 => q_ = .pointer (some ⟨xb, 5, none⟩) | 4 => q_ = .slice (some ⟨fb, 0, none⟩) l0.length cF | 5 => q_ = .int .i64 i | 6 => q_ = .pointer (some ⟨xb, 0, none⟩) | 7 => q_ = .pointer (some ⟨xb, 0, none⟩) | 8 => q_ = .pointer (some ⟨xb, 5, none⟩) | 9 => q_ = .pointer (some ⟨xb, 5, none⟩) | 10 => q_ = .slice (some ⟨fb, 0, none⟩) l0.length cF | 11 => q_ = .int .i64 i | 12 => q_ = .pointer (some ⟨fb, i.toNat * 2, none⟩) | 13 => q_ = .agg #[.int .i64 (rd_T32 (F') i).f0, .int .i64 (rd_T32 (F') i).f1] | 14 => q_ = .pointer (some ⟨p9, 0, none⟩) | 15 => q_ = .int .i64 (rd_T32 B' i).f0 | 16 => q_ = .pointer (some ⟨q6, 0, none⟩) | 17 => q_ = .int .i64 q.f0 | 18 => q_ = .int .i64 (down ((rd_T32 B' i).f0) q.f0) | 19 => q_ = .pointer (some ⟨p9, 1, none⟩) | 20 => q_ = .int .i64 (rd_T32 B' i).f1 | 21 => q_ = .pointer (some ⟨q6, 1, none⟩) | 22 => q_ = .int .i64 q.f1 | 23 => q_ = .int .i64 (up_ ((rd_T32 B' i).f1) q.f1) | 24 => q_ = .agg #[.int .i64 (down ((rd_T32 B' i).f0) q.f0), .int .i64 (up_ ((rd_T32 B' i).f1) q.f1)] | 25 => q_ = .agg #[.int .i64 (wrap64 ((rd_T32 (F') i).f0 + (down ((rd_T32 B' i).f0) q.f0))), .int .i64 (wrap64 ((rd_T32 (F') i).f1 + (up_ ((rd_T32 B' i).f1) q.f1)))] | 26 => q_ = .pointer (some ⟨fb, i.toNat * 2, none⟩) | _ => True) (fun b w' => if b 27 = true then (Aside0 (Apart xb fb bb rb w w') ∧ Aside0 (w'.heap[xb]? = some (.cells #[.slice (some ad) l0.length c0, .slice A1 l1.length c1, .slice A2 l2.length c2, .slice A3 l3.length c3, .slice A4 l4.length c4, .slice (some ⟨fb, 0, none⟩) l0.length cF, .slice (some ⟨bb, 0, none⟩) l0.length cB, vR, .int .i64 mo, .bool fl] 119 (0, 0))) ∧ Aside0 (Row w' fb (.slice (some ⟨fb, 0, none⟩) l0.length cF) (((F').set i.toNat ⟨(wrap64 ((rd_T32 (F') i).f0 + (down ((rd_T32 B' i).f0) q.f0))), (wrap64 ((rd_T32 (F') i).f1 + (up_ ((rd_T32 B' i).f1) q.f1)))⟩))) ∧ Aside0 (Row w' bb (.slice (some ⟨bb, 0, none⟩) l0.length cB) (B')) ∧ Aside0 (Row w' rb (vR) (Rm)) ∧ Aside0 (w'.heap[s]? = some (.cells #[.int .i64 tk, .int .i64 he, .slice As sh.length cs, .bool fs] 45 (0, 0))) ∧ Aside0 (w'.heap[q6]? = some (.cells #[.int .i64 q.f0, .int .i64 q.f1] 32 (0, 0))) ∧ Aside0 (w'.heap[p9]? = some (.cells #[.int .i64 (rd_T32 B' i).f0, .int .i64 (rd_T32 B' i).f1] 32 (0, 0)))) else (Aside0 (Apart xb fb bb rb w w') ∧ Aside0 (w'.heap[xb]? = some (.cells #[.slice (some ad) l0.length c0, .slice A1 l1.length c1, .slice A2 l2.length c2, .slice A3 l3.length c3, .slice A4 l4.length c4, .slice (some ⟨fb, 0, none⟩) l0.length cF, .slice (some ⟨bb, 0, none⟩) l0.length cB, vR, .int .i64 mo, .bool fl] 119 (0, 0))) ∧ Aside0 (Row w' fb (.slice (some ⟨fb, 0, none⟩) l0.length cF) (F')) ∧ Aside0 (Row w' bb (.slice (some ⟨bb, 0, none⟩) l0.length cB) (B')) ∧ Aside0 (Row w' rb (vR) (Rm)) ∧ Aside0 (w'.heap[s]? = some (.cells #[.int .i64 tk, .int .i64 he, .slice As sh.length cs, .bool fs] 45 (0, 0))) ∧ Aside0 (w'.heap[q6]? = some (.cells #[.int .i64 q.f0, .int .i64 q.f1] 32 (0, 0))) ∧ Aside0 (w'.heap[p9]? = some (.cells #[.int .i64 (rd_T32 B' i).f0, .int .i64 (rd_T32 B' i).f1] 32 (0, 0))))) rfl rfl (by kernel_rfl) (by kernel_rfl) (by kernel_rfl) (by show (if false = true then _ else _); rw [if_neg (by decide)]; exact ⟨ap_b (below_drew (Below.refl _ _)) HB, blk_b (below_drew (Below.refl _ _)) Bxb, row_b (below_drew (Below.refl _ _)) Bfb, row_b (below_drew (Below.refl _ _)) Bbb, row_b (below_drew (Below.refl _ _)) Brb, blk_b (below_drew (Below.refl _ _)) Bs, blk_b (below_drew (Below.refl _ _)) Bq6, blk_b (below_drew (Below.refl _ _)) Bp9⟩) ?_ ?_
          · intro o_ hi
            match o_, hi with
            | 0, _ =>
              intro b a wq hI hbi_ hb_ hoff_
              have e0 : a.eval (.tmp 0) = .pointer (some ⟨xb, 0, none⟩) := hI.old 0 (by decide) rfl
              have s0 := sv_ e0
              have hJ := hI.j
              exact op_keep hI (i := 0) (jk_ hJ (by decide)) (hrun := gs_)
            | 1, _ =>
              intro b a wq hI hbi_ hb_ hoff_
              have e44 := hI.new 44 0 (by decide) (hb_ 0 (by decide)) rfl fun _ h => h
              have s44 := sv_ e44
              have hJ := hI.j
              exact op_keep hI (i := 1) (jk_ hJ (by decide)) (hrun := gs_)
            | 2, _ =>
              intro b a wq hI hbi_ hb_ hoff_
              have e45 := hI.new 45 1 (by decide) (hb_ 1 (by decide)) rfl fun _ h => h
              have s45 := sv_ e45
              have hJ := hI.j
              exact op_keep hI (i := 2) (jk_ hJ (by decide)) (hrun := gs_)
            | 3, _ =>
              intro b a wq hI hbi_ hb_ hoff_
              have e46 := hI.new 46 2 (by decide) (hb_ 2 (by decide)) rfl fun _ h => h
              have s46 := sv_ e46
              have hJ := hI.j
              exact op_keep hI (i := 3) (jk_ hJ (by decide)) (hrun := gs_)
            | 4, _ =>
              intro b a wq hI hbi_ hb_ hoff_
              have e47 := hI.new 47 3 (by decide) (hb_ 3 (by decide)) rfl fun _ h => h
              have s47 := sv_ e47
              have hJ := hI.j
              obtain ⟨HBq, qxb, qfb, qbb, qrb, qs, qq6, qp9⟩ := j0_ hJ (hoff_ 27 (by decide))
              obtain ⟨cxb_0, cxb_1, cxb_2, cxb_3, cxb_4, cxb_5, cxb_6, cxb_7, cxb_8, cxb_9⟩ := cells10 qxb.out; 
              exact op_keep hI (i := 4) (jk_ hJ (by decide)) (hrun := gs_)
            | 5, _ =>
              intro b a wq hI hbi_ hb_ hoff_
              have e4 : a.eval (.tmp 4) = .int .i64 i := hI.old 4 (by decide) rfl
              have s4 := sv_ e4
              have hJ := hI.j
              exact op_keep hI (i := 5) (jk_ hJ (by decide)) (hrun := gs_)
            | 6, _ =>
              intro b a wq hI hbi_ hb_ hoff_
              have e0 : a.eval (.tmp 0) = .pointer (some ⟨xb, 0, none⟩) := hI.old 0 (by decide) rfl
              have s0 := sv_ e0
              have hJ := hI.j
              exact op_keep hI (i := 6) (jk_ hJ (by decide)) (hrun := gs_)
            | 7, _ =>
              intro b a wq hI hbi_ hb_ hoff_
              have e50 := hI.new 50 6 (by decide) (hb_ 6 (by decide)) rfl fun _ h => h
              have s50 := sv_ e50
              have hJ := hI.j
              exact op_keep hI (i := 7) (jk_ hJ (by decide)) (hrun := gs_)
            | 8, _ =>
              intro b a wq hI hbi_ hb_ hoff_
              have e51 := hI.new 51 7 (by decide) (hb_ 7 (by decide)) rfl fun _ h => h
              have s51 := sv_ e51
              have hJ := hI.j
              exact op_keep hI (i := 8) (jk_ hJ (by decide)) (hrun := gs_)
            | 9, _ =>
              intro b a wq hI hbi_ hb_ hoff_
              have e52 := hI.new 52 8 (by decide) (hb_ 8 (by decide)) rfl fun _ h => h
              have s52 := sv_ e52
              have hJ := hI.j
              exact op_keep hI (i := 9) (jk_ hJ (by decide)) (hrun := gs_)
            | 10, _ =>
              intro b a wq hI hbi_ hb_ hoff_
              have e53 := hI.new 53 9 (by decide) (hb_ 9 (by decide)) rfl fun _ h => h
              have s53 := sv_ e53
              have hJ := hI.j
              obtain ⟨HBq, qxb, qfb, qbb, qrb, qs, qq6, qp9⟩ := j0_ hJ (hoff_ 27 (by decide))
              obtain ⟨cxb_0, cxb_1, cxb_2, cxb_3, cxb_4, cxb_5, cxb_6, cxb_7, cxb_8, cxb_9⟩ := cells10 qxb.out; 
              exact op_keep hI (i := 10) (jk_ hJ (by decide)) (hrun := gs_)
            | 11, _ =>
              intro b a wq hI hbi_ hb_ hoff_
              have e4 : a.eval (.tmp 4) = .int .i64 i := hI.old 4 (by decide) rfl
              have s4 := sv_ e4
              have hJ := hI.j
              exact op_keep hI (i := 11) (jk_ hJ (by decide)) (hrun := gs_)
            | 12, _ =>
              intro b a wq hI hbi_ hb_ hoff_
              have e54 := hI.new 54 10 (by decide) (hb_ 10 (by decide)) rfl fun _ h => h
              have s54 := sv_ e54
              have e55 := hI.new 55 11 (by decide) (hb_ 11 (by decide)) rfl fun _ h => h
              have s55 := sv_ e55
              have hJ := hI.j
              obtain ⟨HBq, qxb, qfb, qbb, qrb, qs, qq6, qp9⟩ := j0_ hJ (hoff_ 27 (by decide))
              obtain ⟨cxb_0, cxb_1, cxb_2, cxb_3, cxb_4, cxb_5, cxb_6, cxb_7, cxb_8, cxb_9⟩ := cells10 qxb.out; 
              obtain ⟨cfb_0, dfb_0⟩ := Row.cells qfb.out i hi0 hi'; 
              obtain ⟨cs_0, cs_1, cs_2, cs_3⟩ := cells4 qs.out; 
              obtain ⟨cq6_0, cq6_1⟩ := cells2 qq6.out; 
              obtain ⟨cp9_0, cp9_1⟩ := cells2 qp9.out; 
              exact op_keep hI (i := 12) (jk_ hJ (by decide)) (hrun := gs_)
            | 13, _ =>
              intro b a wq hI hbi_ hb_ hoff_
              have e56 := hI.new 56 12 (by decide) (hb_ 12 (by decide)) rfl fun _ h => h
              have s56 := sv_ e56
              have hJ := hI.j
              obtain ⟨HBq, qxb, qfb, qbb, qrb, qs, qq6, qp9⟩ := j0_ hJ (hoff_ 27 (by decide))
              obtain ⟨cfb_0, dfb_0⟩ := Row.cells qfb.out i hi0 hi'; 
              exact op_keep hI (i := 13) (jk_ hJ (by decide)) (hrun := gs_)
            | 14, _ =>
              intro b a wq hI hbi_ hb_ hoff_
              have e9 : a.eval (.tmp 9) = .pointer (some ⟨p9, 0, none⟩) := hI.old 9 (by decide) rfl
              have s9 := sv_ e9
              have hJ := hI.j
              exact op_keep hI (i := 14) (jk_ hJ (by decide)) (hrun := gs_)
            | 15, _ =>
              intro b a wq hI hbi_ hb_ hoff_
              have e58 := hI.new 58 14 (by decide) (hb_ 14 (by decide)) rfl fun _ h => h
              have s58 := sv_ e58
              have hJ := hI.j
              obtain ⟨HBq, qxb, qfb, qbb, qrb, qs, qq6, qp9⟩ := j0_ hJ (hoff_ 27 (by decide))
              obtain ⟨cp9_0, cp9_1⟩ := cells2 qp9.out; 
              exact op_keep hI (i := 15) (jk_ hJ (by decide)) (hrun := gs_)
            | 16, _ =>
              intro b a wq hI hbi_ hb_ hoff_
              have e6 : a.eval (.tmp 6) = .pointer (some ⟨q6, 0, none⟩) := hI.old 6 (by decide) rfl
              have s6 := sv_ e6
              have hJ := hI.j
              exact op_keep hI (i := 16) (jk_ hJ (by decide)) (hrun := gs_)
            | 17, _ =>
              intro b a wq hI hbi_ hb_ hoff_
              have e60 := hI.new 60 16 (by decide) (hb_ 16 (by decide)) rfl fun _ h => h
              have s60 := sv_ e60
              have hJ := hI.j
              obtain ⟨HBq, qxb, qfb, qbb, qrb, qs, qq6, qp9⟩ := j0_ hJ (hoff_ 27 (by decide))
              obtain ⟨cq6_0, cq6_1⟩ := cells2 qq6.out; 
              exact op_keep hI (i := 17) (jk_ hJ (by decide)) (hrun := gs_)
            | 18, _ =>
              intro b a wq hI hbi_ hb_ hoff_
              have e59 := hI.new 59 15 (by decide) (hb_ 15 (by decide)) rfl fun _ h => h
              have s59 := sv_ e59
              have e61 := hI.new 61 17 (by decide) (hb_ 17 (by decide)) rfl fun _ h => h
              have s61 := sv_ e61
              have hJ := hI.j
              obtain ⟨HBq, qxb, qfb, qbb, qrb, qs, qq6, qp9⟩ := j0_ hJ (hoff_ 27 (by decide))
              refine ⟨_, rfl, rfl, fun K hK => ?_⟩
              refine goes_ Try.func152 (by kernel_rfl) rfl #[.int .i64 (rd_T32 B' i).f0, .int .i64 q.f0] rfl rfl rfl (by simp [e59, e61]) ?_
              refine (down_any ((rd_T32 B' i).f0) q.f0 wq).mono ?_
              rintro e w2 ⟨rfl, hb2⟩
              exact ⟨_, rfl, hK _ _ (j0_up (by decide) (hoff_ 27 (by decide)) ⟨ap_b hb2 HBq, blk_b hb2 qxb, row_b hb2 qfb, row_b hb2 qbb, row_b hb2 qrb, blk_b hb2 qs, blk_b hb2 qq6, blk_b hb2 qp9⟩) (fun _ _ h => h) rfl⟩
            | 19, _ =>
              intro b a wq hI hbi_ hb_ hoff_
              have e9 : a.eval (.tmp 9) = .pointer (some ⟨p9, 0, none⟩) := hI.old 9 (by decide) rfl
              have s9 := sv_ e9
              have hJ := hI.j
              exact op_keep hI (i := 19) (jk_ hJ (by decide)) (hrun := gs_)
            | 20, _ =>
              intro b a wq hI hbi_ hb_ hoff_
              have e63 := hI.new 63 19 (by decide) (hb_ 19 (by decide)) rfl fun _ h => h
              have s63 := sv_ e63
              have hJ := hI.j
              obtain ⟨HBq, qxb, qfb, qbb, qrb, qs, qq6, qp9⟩ := j0_ hJ (hoff_ 27 (by decide))
              obtain ⟨cp9_0, cp9_1⟩ := cells2 qp9.out; 
              exact op_keep hI (i := 20) (jk_ hJ (by decide)) (hrun := gs_)
            | 21, _ =>
              intro b a wq hI hbi_ hb_ hoff_
              have e6 : a.eval (.tmp 6) = .pointer (some ⟨q6, 0, none⟩) := hI.old 6 (by decide) rfl
              have s6 := sv_ e6
              have hJ := hI.j
              exact op_keep hI (i := 21) (jk_ hJ (by decide)) (hrun := gs_)
            | 22, _ =>
              intro b a wq hI hbi_ hb_ hoff_
              have e65 := hI.new 65 21 (by decide) (hb_ 21 (by decide)) rfl fun _ h => h
              have s65 := sv_ e65
              have hJ := hI.j
              obtain ⟨HBq, qxb, qfb, qbb, qrb, qs, qq6, qp9⟩ := j0_ hJ (hoff_ 27 (by decide))
              obtain ⟨cq6_0, cq6_1⟩ := cells2 qq6.out; 
              exact op_keep hI (i := 22) (jk_ hJ (by decide)) (hrun := gs_)
            | 23, _ =>
              intro b a wq hI hbi_ hb_ hoff_
              have e64 := hI.new 64 20 (by decide) (hb_ 20 (by decide)) rfl fun _ h => h
              have s64 := sv_ e64
              have e66 := hI.new 66 22 (by decide) (hb_ 22 (by decide)) rfl fun _ h => h
              have s66 := sv_ e66
              have hJ := hI.j
              obtain ⟨HBq, qxb, qfb, qbb, qrb, qs, qq6, qp9⟩ := j0_ hJ (hoff_ 27 (by decide))
              refine ⟨_, rfl, rfl, fun K hK => ?_⟩
              refine goes_ Try.func153 (by kernel_rfl) rfl #[.int .i64 (rd_T32 B' i).f1, .int .i64 q.f1] rfl rfl rfl (by simp [e64, e66]) ?_
              refine (up_any ((rd_T32 B' i).f1) q.f1 wq).mono ?_
              rintro e w2 ⟨rfl, hb2⟩
              exact ⟨_, rfl, hK _ _ (j0_up (by decide) (hoff_ 27 (by decide)) ⟨ap_b hb2 HBq, blk_b hb2 qxb, row_b hb2 qfb, row_b hb2 qbb, row_b hb2 qrb, blk_b hb2 qs, blk_b hb2 qq6, blk_b hb2 qp9⟩) (fun _ _ h => h) rfl⟩
            | 24, _ =>
              intro b a wq hI hbi_ hb_ hoff_
              have e62 := hI.new 62 18 (by decide) (hb_ 18 (by decide)) rfl fun _ h => h
              have s62 := sv_ e62
              have e67 := hI.new 67 23 (by decide) (hb_ 23 (by decide)) rfl fun _ h => h
              have s67 := sv_ e67
              have hJ := hI.j
              exact op_keep hI (i := 24) (jk_ hJ (by decide)) (hrun := gs_)
            | 25, _ =>
              intro b a wq hI hbi_ hb_ hoff_
              have e57 := hI.new 57 13 (by decide) (hb_ 13 (by decide)) rfl fun _ h => h
              have s57 := sv_ e57
              have e68 := hI.new 68 24 (by decide) (hb_ 24 (by decide)) rfl fun _ h => h
              have s68 := sv_ e68
              have hJ := hI.j
              obtain ⟨HBq, qxb, qfb, qbb, qrb, qs, qq6, qp9⟩ := j0_ hJ (hoff_ 27 (by decide))
              refine ⟨_, rfl, rfl, fun K hK => ?_⟩
              refine goes_ Try.func128 (by kernel_rfl) rfl #[.agg #[.int .i64 (rd_T32 (F') i).f0, .int .i64 (rd_T32 (F') i).f1], .agg #[.int .i64 (down ((rd_T32 B' i).f0) q.f0), .int .i64 (up_ ((rd_T32 B' i).f1) q.f1)]] rfl rfl rfl (by simp [e57, e68]) ?_
              refine (plus_any ⟨(rd_T32 (F') i).f0, (rd_T32 (F') i).f1⟩ ⟨(down ((rd_T32 B' i).f0) q.f0), (up_ ((rd_T32 B' i).f1) q.f1)⟩ wq).mono ?_
              rintro e w2 ⟨rfl, hb2⟩
              exact ⟨_, rfl, hK _ _ (j0_up (by decide) (hoff_ 27 (by decide)) ⟨ap_b hb2 HBq, blk_b hb2 qxb, row_b hb2 qfb, row_b hb2 qbb, row_b hb2 qrb, blk_b hb2 qs, blk_b hb2 qq6, blk_b hb2 qp9⟩) (fun _ _ h => h) rfl⟩
            | 26, _ =>
              intro b a wq hI hbi_ hb_ hoff_
              have e48 := hI.new 48 4 (by decide) (hb_ 4 (by decide)) rfl fun _ h => h
              have s48 := sv_ e48
              have e49 := hI.new 49 5 (by decide) (hb_ 5 (by decide)) rfl fun _ h => h
              have s49 := sv_ e49
              have hJ := hI.j
              obtain ⟨HBq, qxb, qfb, qbb, qrb, qs, qq6, qp9⟩ := j0_ hJ (hoff_ 27 (by decide))
              obtain ⟨cxb_0, cxb_1, cxb_2, cxb_3, cxb_4, cxb_5, cxb_6, cxb_7, cxb_8, cxb_9⟩ := cells10 qxb.out; 
              obtain ⟨cfb_0, dfb_0⟩ := Row.cells qfb.out i hi0 hi'; 
              obtain ⟨cs_0, cs_1, cs_2, cs_3⟩ := cells4 qs.out; 
              obtain ⟨cq6_0, cq6_1⟩ := cells2 qq6.out; 
              obtain ⟨cp9_0, cp9_1⟩ := cells2 qp9.out; 
              exact op_keep hI (i := 26) (jk_ hJ (by decide)) (hrun := gs_)
            | 27, _ =>
              intro b a wq hI hbi_ hb_ hoff_
              have e70 := hI.new 70 26 (by decide) (hb_ 26 (by decide)) rfl fun _ h => h
              have s70 := sv_ e70
              have e69 := hI.new 69 25 (by decide) (hb_ 25 (by decide)) rfl fun _ h => h
              have s69 := sv_ e69
              have hJ := hI.j
              obtain ⟨HBq, qxb, qfb, qbb, qrb, qs, qq6, qp9⟩ := j0_ hJ hbi_
              obtain ⟨cxb_0, cxb_1, cxb_2, cxb_3, cxb_4, cxb_5, cxb_6, cxb_7, cxb_8, cxb_9⟩ := cells10 qxb.out; 
              obtain ⟨cfb_0, dfb_0⟩ := Row.cells qfb.out i hi0 hi'; 
              obtain ⟨cs_0, cs_1, cs_2, cs_3⟩ := cells4 qs.out; 
              obtain ⟨cq6_0, cq6_1⟩ := cells2 qq6.out; 
              obtain ⟨cp9_0, cp9_1⟩ := cells2 qp9.out; 
              refine ⟨_, rfl, rfl, fun K hK => ?_⟩
              obtain ⟨w2, hrun2, hrow2, hg2⟩ := Row.store (P := Try.prog) (by kernel_rfl) qfb.out (i) (hi0) (hi') ((wrap64 ((rd_T32 (F') i).f0 + (down ((rd_T32 B' i).f0) q.f0)))) ((wrap64 ((rd_T32 (F') i).f1 + (up_ ((rd_T32 B' i).f1) q.f1))))
              refine skip_ rfl rfl (w1 := w2) (by unfold execOp; simp [e70, e69, hrun2]) (hK undef _ (j1_up ⟨ap_g hg2 HBq (Or.inr (Or.inl rfl)), blk_g hg2 qxb (by first | exact N_xb_fb.out | exact N_fb_xb.out.symm), ⟨hrow2⟩, row_g hg2 qbb (by first | exact N_bb_fb.out | exact N_fb_bb.out.symm), row_g hg2 qrb (by first | exact N_rb_fb.out | exact N_fb_rb.out.symm), blk_g hg2 qs (by first | exact N_s_fb.out | exact N_fb_s.out.symm), blk_g hg2 qq6 (by first | exact N_q6_fb.out | exact N_fb_q6.out.symm), blk_g hg2 qp9 (by first | exact N_p9_fb.out | exact N_fb_p9.out.symm)⟩) (fun _ _ h => h) trivial)
            | o_ + 28, hi => exact absurd hi (by omega)
          intro vs wn b_ hall hJ hT
          replace hJ := j1_ hJ (hall 27 (by decide))
          obtain ⟨HJ0, HT0⟩ : Aside0 _ ∧ Aside0 _ := ⟨⟨hJ⟩, ⟨hT⟩⟩
          clear hall hJ hT
          simp only [fillAll, show List.range 28 = [0, 1, 2, 3, 4, 5, 6, 7, 8, 9, 10, 11, 12, 13, 14, 15, 16, 17, 18, 19, 20, 21, 22, 23, 24, 25, 26, 27] from rfl]
          rw [show vs 0 = _ from HT0.out 0 (by decide) (by decide), show vs 1 = _ from HT0.out 1 (by decide) (by decide), show vs 2 = _ from HT0.out 2 (by decide) (by decide), show vs 3 = _ from HT0.out 3 (by decide) (by decide), show vs 4 = _ from HT0.out 4 (by decide) (by decide), show vs 5 = _ from HT0.out 5 (by decide) (by decide), show vs 6 = _ from HT0.out 6 (by decide) (by decide), show vs 7 = _ from HT0.out 7 (by decide) (by decide), show vs 8 = _ from HT0.out 8 (by decide) (by decide), show vs 9 = _ from HT0.out 9 (by decide) (by decide), show vs 10 = _ from HT0.out 10 (by decide) (by decide), show vs 11 = _ from HT0.out 11 (by decide) (by decide), show vs 12 = _ from HT0.out 12 (by decide) (by decide), show vs 13 = _ from HT0.out 13 (by decide) (by decide), show vs 14 = _ from HT0.out 14 (by decide) (by decide), show vs 15 = _ from HT0.out 15 (by decide) (by decide), show vs 16 = _ from HT0.out 16 (by decide) (by decide), show vs 17 = _ from HT0.out 17 (by decide) (by decide), show vs 18 = _ from HT0.out 18 (by decide) (by decide), show vs 19 = _ from HT0.out 19 (by decide) (by decide), show vs 20 = _ from HT0.out 20 (by decide) (by decide), show vs 21 = _ from HT0.out 21 (by decide) (by decide), show vs 22 = _ from HT0.out 22 (by decide) (by decide), show vs 23 = _ from HT0.out 23 (by decide) (by decide), show vs 24 = _ from HT0.out 24 (by decide) (by decide), show vs 25 = _ from HT0.out 25 (by decide) (by decide), show vs 26 = _ from HT0.out 26 (by decide) (by decide)]
          simp only [Act.put, List.setIfInBounds_toArray, List.set_cons_zero, List.set_cons_succ]
          clear HB Bxb Bfb Bbb Brb Bs Bq6 Bp9
          obtain ⟨HB, Bxb, Bfb, Bbb, Brb, Bs, Bq6, Bp9⟩ := HJ0.out
          clear HJ0 HT0
          (try clear cxb_0 cxb_1 cxb_2 cxb_3 cxb_4 cxb_5 cxb_6 cxb_7 cxb_8 cxb_9); (try clear cfb_0 dfb_0); (try clear cs_0 cs_1 cs_2 cs_3); (try clear cq6_0 cq6_1); (try clear cp9_0 cp9_1)
          go_wp2
          refine region_ri (n := 21) (B := [0, 1, 3, 7, 15, 0, 0, 64, 0, 256, 768, 1984, 0, 4096, 0, 16384, 49152, 131008, 262080, 524287, 1048575]) (fun o_ => match o_ with | 0 => some 71 | 1 => some 72 | 2 => some 73 | 3 => some 74 | 4 => some 75 | 5 => some 76 | 6 => some 77 | 7 => some 78 | 8 => some 79 | 9 => some 80 | 10 => some 81 | 11 => some 82 | 12 => some 83 | 13 => some 84 | 14 => some 85 | 15 => some 86 | 16 => some 87 | 17 => some 88 | 18 => some 89 | 19 => some 90 | 20 => none | _ => none) (fun o_ q_ w' => match o_ with | 0 => q_ = .pointer (some ⟨xb, 0, none⟩) | 1 => q_ = .pointer (some ⟨xb, 0, none⟩) | 2 => q_ = .pointer (some ⟨xb, 5, none⟩) | 3 => q_ = .pointer (some ⟨xb, 6, none⟩) | 4 => q_ = .slice (some ⟨bb, 0, none⟩) l0.length cB | 5 => q_ = .int .i64 i | 6 => q_ = .pointer (some ⟨p9, 0, none⟩) | 7 => q_ = .int .i64 (rd_T32 B' i).f0 | 8 => q_ = .pointer (some ⟨q6, 1, none⟩) | 9 => q_ = .int .i64 q.f1 | 10 => q_ = .int .i64 (wrap64 (1000000 - q.f1)) | 11 => q_ = .int .i64 (down ((rd_T32 B' i).f0) ((wrap64 (1000000 - q.f1)))) | 12 => q_ = .pointer (some ⟨p9, 1, none⟩) | 13 => q_ = .int .i64 (rd_T32 B' i).f1 | 14 => q_ = .pointer (some ⟨q6, 0, none⟩) | 15 => q_ = .int .i64 q.f0 | 16 => q_ = .int .i64 (wrap64 (1000000 - q.f0)) | 17 => q_ = .int .i64 (up_ ((rd_T32 B' i).f1) ((wrap64 (1000000 - q.f0)))) | 18 => q_ = .agg #[.int .i64 (down ((rd_T32 B' i).f0) ((wrap64 (1000000 - q.f1)))), .int .i64 (up_ ((rd_T32 B' i).f1) ((wrap64 (1000000 - q.f0))))] | 19 => q_ = .pointer (some ⟨bb, i.toNat * 2, none⟩) | _ => True) (fun b w' => if b 20 = true then (Aside0 (Apart xb fb bb rb w w') ∧ Aside0 (w'.heap[xb]? = some (.cells #[.slice (some ad) l0.length c0, .slice A1 l1.length c1, .slice A2 l2.length c2, .slice A3 l3.length c3, .slice A4 l4.length c4, .slice (some ⟨fb, 0, none⟩) l0.length cF, .slice (some ⟨bb, 0, none⟩) l0.length cB, vR, .int .i64 mo, .bool fl] 119 (0, 0))) ∧ Aside0 (Row w' fb (.slice (some ⟨fb, 0, none⟩) l0.length cF) (((F').set i.toNat ⟨(wrap64 ((rd_T32 (F') i).f0 + (down ((rd_T32 B' i).f0) q.f0))), (wrap64 ((rd_T32 (F') i).f1 + (up_ ((rd_T32 B' i).f1) q.f1)))⟩))) ∧ Aside0 (Row w' bb (.slice (some ⟨bb, 0, none⟩) l0.length cB) (((B').set i.toNat ⟨(down ((rd_T32 B' i).f0) ((wrap64 (1000000 - q.f1)))), (up_ ((rd_T32 B' i).f1) ((wrap64 (1000000 - q.f0))))⟩))) ∧ Aside0 (Row w' rb (vR) (Rm)) ∧ Aside0 (w'.heap[s]? = some (.cells #[.int .i64 tk, .int .i64 he, .slice As sh.length cs, .bool fs] 45 (0, 0)))) else (Aside0 (Apart xb fb bb rb w w') ∧ Aside0 (w'.heap[xb]? = some (.cells #[.slice (some ad) l0.length c0, .slice A1 l1.length c1, .slice A2 l2.length c2, .slice A3 l3.length c3, .slice A4 l4.length c4, .slice (some ⟨fb, 0, none⟩) l0.length cF, .slice (some ⟨bb, 0, none⟩) l0.length cB, vR, .int .i64 mo, .bool fl] 119 (0, 0))) ∧ Aside0 (Row w' fb (.slice (some ⟨fb, 0, none⟩) l0.length cF) (((F').set i.toNat ⟨(wrap64 ((rd_T32 (F') i).f0 + (down ((rd_T32 B' i).f0) q.f0))), (wrap64 ((rd_T32 (F') i).f1 + (up_ ((rd_T32 B' i).f1) q.f1)))⟩))) ∧ Aside0 (Row w' bb (.slice (some ⟨bb, 0, none⟩) l0.length cB) (B')) ∧ Aside0 (Row w' rb (vR) (Rm)) ∧ Aside0 (w'.heap[s]? = some (.cells #[.int .i64 tk, .int .i64 he, .slice As sh.length cs, .bool fs] 45 (0, 0))) ∧ Aside0 (w'.heap[q6]? = some (.cells #[.int .i64 q.f0, .int .i64 q.f1] 32 (0, 0))) ∧ Aside0 (w'.heap[p9]? = some (.cells #[.int .i64 (rd_T32 B' i).f0, .int .i64 (rd_T32 B' i).f1] 32 (0, 0))))) rfl rfl (by kernel_rfl) (by kernel_rfl) (by kernel_rfl) (by show (if false = true then _ else _); rw [if_neg (by decide)]; exact ⟨ap_b (below_drew (Below.refl _ _)) HB, blk_b (below_drew (Below.refl _ _)) Bxb, row_b (below_drew (Below.refl _ _)) Bfb, row_b (below_drew (Below.refl _ _)) Bbb, row_b (below_drew (Below.refl _ _)) Brb, blk_b (below_drew (Below.refl _ _)) Bs, blk_b (below_drew (Below.refl _ _)) Bq6, blk_b (below_drew (Below.refl _ _)) Bp9⟩) ?_ ?_
          · intro o_ hi
            match o_, hi with
            | 0, _ =>
              intro b a wq hI hbi_ hb_ hoff_
              have e0 : a.eval (.tmp 0) = .pointer (some ⟨xb, 0, none⟩) := hI.old 0 (by decide) rfl
              have s0 := sv_ e0
              have hJ := hI.j
              exact op_keep hI (i := 0) (jk_ hJ (by decide)) (hrun := gs_)
            | 1, _ =>
              intro b a wq hI hbi_ hb_ hoff_
              have e71 := hI.new 71 0 (by decide) (hb_ 0 (by decide)) rfl fun _ h => h
              have s71 := sv_ e71
              have hJ := hI.j
              exact op_keep hI (i := 1) (jk_ hJ (by decide)) (hrun := gs_)
            | 2, _ =>
              intro b a wq hI hbi_ hb_ hoff_
              have e72 := hI.new 72 1 (by decide) (hb_ 1 (by decide)) rfl fun _ h => h
              have s72 := sv_ e72
              have hJ := hI.j
              exact op_keep hI (i := 2) (jk_ hJ (by decide)) (hrun := gs_)
            | 3, _ =>
              intro b a wq hI hbi_ hb_ hoff_
              have e73 := hI.new 73 2 (by decide) (hb_ 2 (by decide)) rfl fun _ h => h
              have s73 := sv_ e73
              have hJ := hI.j
              exact op_keep hI (i := 3) (jk_ hJ (by decide)) (hrun := gs_)
            | 4, _ =>
              intro b a wq hI hbi_ hb_ hoff_
              have e74 := hI.new 74 3 (by decide) (hb_ 3 (by decide)) rfl fun _ h => h
              have s74 := sv_ e74
              have hJ := hI.j
              obtain ⟨HBq, qxb, qfb, qbb, qrb, qs, qq6, qp9⟩ := j0_ hJ (hoff_ 20 (by decide))
              obtain ⟨cxb_0, cxb_1, cxb_2, cxb_3, cxb_4, cxb_5, cxb_6, cxb_7, cxb_8, cxb_9⟩ := cells10 qxb.out; 
              exact op_keep hI (i := 4) (jk_ hJ (by decide)) (hrun := gs_)
            | 5, _ =>
              intro b a wq hI hbi_ hb_ hoff_
              have e4 : a.eval (.tmp 4) = .int .i64 i := hI.old 4 (by decide) rfl
              have s4 := sv_ e4
              have hJ := hI.j
              exact op_keep hI (i := 5) (jk_ hJ (by decide)) (hrun := gs_)
            | 6, _ =>
              intro b a wq hI hbi_ hb_ hoff_
              have e9 : a.eval (.tmp 9) = .pointer (some ⟨p9, 0, none⟩) := hI.old 9 (by decide) rfl
              have s9 := sv_ e9
              have hJ := hI.j
              exact op_keep hI (i := 6) (jk_ hJ (by decide)) (hrun := gs_)
            | 7, _ =>
              intro b a wq hI hbi_ hb_ hoff_
              have e77 := hI.new 77 6 (by decide) (hb_ 6 (by decide)) rfl fun _ h => h
              have s77 := sv_ e77
              have hJ := hI.j
              obtain ⟨HBq, qxb, qfb, qbb, qrb, qs, qq6, qp9⟩ := j0_ hJ (hoff_ 20 (by decide))
              obtain ⟨cp9_0, cp9_1⟩ := cells2 qp9.out; 
              exact op_keep hI (i := 7) (jk_ hJ (by decide)) (hrun := gs_)
            | 8, _ =>
              intro b a wq hI hbi_ hb_ hoff_
              have e6 : a.eval (.tmp 6) = .pointer (some ⟨q6, 0, none⟩) := hI.old 6 (by decide) rfl
              have s6 := sv_ e6
              have hJ := hI.j
              exact op_keep hI (i := 8) (jk_ hJ (by decide)) (hrun := gs_)
            | 9, _ =>
              intro b a wq hI hbi_ hb_ hoff_
              have e79 := hI.new 79 8 (by decide) (hb_ 8 (by decide)) rfl fun _ h => h
              have s79 := sv_ e79
              have hJ := hI.j
              obtain ⟨HBq, qxb, qfb, qbb, qrb, qs, qq6, qp9⟩ := j0_ hJ (hoff_ 20 (by decide))
              obtain ⟨cq6_0, cq6_1⟩ := cells2 qq6.out; 
              exact op_keep hI (i := 9) (jk_ hJ (by decide)) (hrun := gs_)
            | 10, _ =>
              intro b a wq hI hbi_ hb_ hoff_
              have e80 := hI.new 80 9 (by decide) (hb_ 9 (by decide)) rfl fun _ h => h
              have s80 := sv_ e80
              have hJ := hI.j
              exact op_keep hI (i := 10) (jk_ hJ (by decide)) (hrun := gs_)
            | 11, _ =>
              intro b a wq hI hbi_ hb_ hoff_
              have e78 := hI.new 78 7 (by decide) (hb_ 7 (by decide)) rfl fun _ h => h
              have s78 := sv_ e78
              have e81 := hI.new 81 10 (by decide) (hb_ 10 (by decide)) rfl fun _ h => h
              have s81 := sv_ e81
              have hJ := hI.j
              obtain ⟨HBq, qxb, qfb, qbb, qrb, qs, qq6, qp9⟩ := j0_ hJ (hoff_ 20 (by decide))
              refine ⟨_, rfl, rfl, fun K hK => ?_⟩
              refine goes_ Try.func152 (by kernel_rfl) rfl #[.int .i64 (rd_T32 B' i).f0, .int .i64 (wrap64 (1000000 - q.f1))] rfl rfl rfl (by simp [e78, e81]) ?_
              refine (down_any ((rd_T32 B' i).f0) ((wrap64 (1000000 - q.f1))) wq).mono ?_
              rintro e w2 ⟨rfl, hb2⟩
              exact ⟨_, rfl, hK _ _ (j0_up (by decide) (hoff_ 20 (by decide)) ⟨ap_b hb2 HBq, blk_b hb2 qxb, row_b hb2 qfb, row_b hb2 qbb, row_b hb2 qrb, blk_b hb2 qs, blk_b hb2 qq6, blk_b hb2 qp9⟩) (fun _ _ h => h) rfl⟩
            | 12, _ =>
              intro b a wq hI hbi_ hb_ hoff_
              have e9 : a.eval (.tmp 9) = .pointer (some ⟨p9, 0, none⟩) := hI.old 9 (by decide) rfl
              have s9 := sv_ e9
              have hJ := hI.j
              exact op_keep hI (i := 12) (jk_ hJ (by decide)) (hrun := gs_)
            | 13, _ =>
              intro b a wq hI hbi_ hb_ hoff_
              have e83 := hI.new 83 12 (by decide) (hb_ 12 (by decide)) rfl fun _ h => h
              have s83 := sv_ e83
              have hJ := hI.j
              obtain ⟨HBq, qxb, qfb, qbb, qrb, qs, qq6, qp9⟩ := j0_ hJ (hoff_ 20 (by decide))
              obtain ⟨cp9_0, cp9_1⟩ := cells2 qp9.out; 
              exact op_keep hI (i := 13) (jk_ hJ (by decide)) (hrun := gs_)
            | 14, _ =>
              intro b a wq hI hbi_ hb_ hoff_
              have e6 : a.eval (.tmp 6) = .pointer (some ⟨q6, 0, none⟩) := hI.old 6 (by decide) rfl
              have s6 := sv_ e6
              have hJ := hI.j
              exact op_keep hI (i := 14) (jk_ hJ (by decide)) (hrun := gs_)
            | 15, _ =>
              intro b a wq hI hbi_ hb_ hoff_
              have e85 := hI.new 85 14 (by decide) (hb_ 14 (by decide)) rfl fun _ h => h
              have s85 := sv_ e85
              have hJ := hI.j
              obtain ⟨HBq, qxb, qfb, qbb, qrb, qs, qq6, qp9⟩ := j0_ hJ (hoff_ 20 (by decide))
              obtain ⟨cq6_0, cq6_1⟩ := cells2 qq6.out; 
              exact op_keep hI (i := 15) (jk_ hJ (by decide)) (hrun := gs_)
            | 16, _ =>
              intro b a wq hI hbi_ hb_ hoff_
              have e86 := hI.new 86 15 (by decide) (hb_ 15 (by decide)) rfl fun _ h => h
              have s86 := sv_ e86
              have hJ := hI.j
              exact op_keep hI (i := 16) (jk_ hJ (by decide)) (hrun := gs_)
            | 17, _ =>
              intro b a wq hI hbi_ hb_ hoff_
              have e84 := hI.new 84 13 (by decide) (hb_ 13 (by decide)) rfl fun _ h => h
              have s84 := sv_ e84
              have e87 := hI.new 87 16 (by decide) (hb_ 16 (by decide)) rfl fun _ h => h
              have s87 := sv_ e87
              have hJ := hI.j
              obtain ⟨HBq, qxb, qfb, qbb, qrb, qs, qq6, qp9⟩ := j0_ hJ (hoff_ 20 (by decide))
              refine ⟨_, rfl, rfl, fun K hK => ?_⟩
              refine goes_ Try.func153 (by kernel_rfl) rfl #[.int .i64 (rd_T32 B' i).f1, .int .i64 (wrap64 (1000000 - q.f0))] rfl rfl rfl (by simp [e84, e87]) ?_
              refine (up_any ((rd_T32 B' i).f1) ((wrap64 (1000000 - q.f0))) wq).mono ?_
              rintro e w2 ⟨rfl, hb2⟩
              exact ⟨_, rfl, hK _ _ (j0_up (by decide) (hoff_ 20 (by decide)) ⟨ap_b hb2 HBq, blk_b hb2 qxb, row_b hb2 qfb, row_b hb2 qbb, row_b hb2 qrb, blk_b hb2 qs, blk_b hb2 qq6, blk_b hb2 qp9⟩) (fun _ _ h => h) rfl⟩
            | 18, _ =>
              intro b a wq hI hbi_ hb_ hoff_
              have e82 := hI.new 82 11 (by decide) (hb_ 11 (by decide)) rfl fun _ h => h
              have s82 := sv_ e82
              have e88 := hI.new 88 17 (by decide) (hb_ 17 (by decide)) rfl fun _ h => h
              have s88 := sv_ e88
              have hJ := hI.j
              exact op_keep hI (i := 18) (jk_ hJ (by decide)) (hrun := gs_)
            | 19, _ =>
              intro b a wq hI hbi_ hb_ hoff_
              have e75 := hI.new 75 4 (by decide) (hb_ 4 (by decide)) rfl fun _ h => h
              have s75 := sv_ e75
              have e76 := hI.new 76 5 (by decide) (hb_ 5 (by decide)) rfl fun _ h => h
              have s76 := sv_ e76
              have hJ := hI.j
              obtain ⟨HBq, qxb, qfb, qbb, qrb, qs, qq6, qp9⟩ := j0_ hJ (hoff_ 20 (by decide))
              obtain ⟨cxb_0, cxb_1, cxb_2, cxb_3, cxb_4, cxb_5, cxb_6, cxb_7, cxb_8, cxb_9⟩ := cells10 qxb.out; 
              obtain ⟨cs_0, cs_1, cs_2, cs_3⟩ := cells4 qs.out; 
              obtain ⟨cq6_0, cq6_1⟩ := cells2 qq6.out; 
              obtain ⟨cp9_0, cp9_1⟩ := cells2 qp9.out; 
              exact op_keep hI (i := 19) (jk_ hJ (by decide)) (hrun := gs_)
            | 20, _ =>
              intro b a wq hI hbi_ hb_ hoff_
              have e90 := hI.new 90 19 (by decide) (hb_ 19 (by decide)) rfl fun _ h => h
              have s90 := sv_ e90
              have e89 := hI.new 89 18 (by decide) (hb_ 18 (by decide)) rfl fun _ h => h
              have s89 := sv_ e89
              have hJ := hI.j
              obtain ⟨HBq, qxb, qfb, qbb, qrb, qs, qq6, qp9⟩ := j0_ hJ hbi_
              obtain ⟨cxb_0, cxb_1, cxb_2, cxb_3, cxb_4, cxb_5, cxb_6, cxb_7, cxb_8, cxb_9⟩ := cells10 qxb.out; 
              obtain ⟨cs_0, cs_1, cs_2, cs_3⟩ := cells4 qs.out; 
              obtain ⟨cq6_0, cq6_1⟩ := cells2 qq6.out; 
              obtain ⟨cp9_0, cp9_1⟩ := cells2 qp9.out; 
              refine ⟨_, rfl, rfl, fun K hK => ?_⟩
              obtain ⟨w2, hrun2, hrow2, hg2⟩ := Row.store (P := Try.prog) (by kernel_rfl) qbb.out (i) (hi0) (hi') ((down ((rd_T32 B' i).f0) ((wrap64 (1000000 - q.f1))))) ((up_ ((rd_T32 B' i).f1) ((wrap64 (1000000 - q.f0)))))
              refine skip_ rfl rfl (w1 := w2) (by unfold execOp; simp [e90, e89, hrun2]) (hK undef _ (j1_up ⟨ap_g hg2 HBq (Or.inr (Or.inr (Or.inl rfl))), blk_g hg2 qxb (by first | exact N_xb_bb.out | exact N_bb_xb.out.symm), row_g hg2 qfb (by first | exact N_fb_bb.out | exact N_bb_fb.out.symm), ⟨hrow2⟩, row_g hg2 qrb (by first | exact N_rb_bb.out | exact N_bb_rb.out.symm), blk_g hg2 qs (by first | exact N_s_bb.out | exact N_bb_s.out.symm)⟩) (fun _ _ h => h) trivial)
            | o_ + 21, hi => exact absurd hi (by omega)
          intro vs wm b_ hall hJ hT
          replace hJ := j1_ hJ (hall 20 (by decide))
          obtain ⟨HJ0, HT0⟩ : Aside0 _ ∧ Aside0 _ := ⟨⟨hJ⟩, ⟨hT⟩⟩
          clear hall hJ hT
          simp only [fillAll, show List.range 21 = [0, 1, 2, 3, 4, 5, 6, 7, 8, 9, 10, 11, 12, 13, 14, 15, 16, 17, 18, 19, 20] from rfl]
          rw [show vs 0 = _ from HT0.out 0 (by decide) (by decide), show vs 1 = _ from HT0.out 1 (by decide) (by decide), show vs 2 = _ from HT0.out 2 (by decide) (by decide), show vs 3 = _ from HT0.out 3 (by decide) (by decide), show vs 4 = _ from HT0.out 4 (by decide) (by decide), show vs 5 = _ from HT0.out 5 (by decide) (by decide), show vs 6 = _ from HT0.out 6 (by decide) (by decide), show vs 7 = _ from HT0.out 7 (by decide) (by decide), show vs 8 = _ from HT0.out 8 (by decide) (by decide), show vs 9 = _ from HT0.out 9 (by decide) (by decide), show vs 10 = _ from HT0.out 10 (by decide) (by decide), show vs 11 = _ from HT0.out 11 (by decide) (by decide), show vs 12 = _ from HT0.out 12 (by decide) (by decide), show vs 13 = _ from HT0.out 13 (by decide) (by decide), show vs 14 = _ from HT0.out 14 (by decide) (by decide), show vs 15 = _ from HT0.out 15 (by decide) (by decide), show vs 16 = _ from HT0.out 16 (by decide) (by decide), show vs 17 = _ from HT0.out 17 (by decide) (by decide), show vs 18 = _ from HT0.out 18 (by decide) (by decide), show vs 19 = _ from HT0.out 19 (by decide) (by decide)]
          simp only [Act.put, List.setIfInBounds_toArray, List.set_cons_zero, List.set_cons_succ]
          clear HB Bxb Bfb Bbb Brb Bs Bq6 Bp9
          obtain ⟨HB, Bxb, Bfb, Bbb, Brb, Bs⟩ := HJ0.out
          clear HJ0 HT0
          (try clear cxb_0 cxb_1 cxb_2 cxb_3 cxb_4 cxb_5 cxb_6 cxb_7 cxb_8 cxb_9); (try clear cs_0 cs_1 cs_2 cs_3); (try clear cq6_0 cq6_1); (try clear cp9_0 cp9_1)
          have hm3 := HM.out.1
          go_wp2
          go_roundg (l0.length - (i + 1).toNat)
          case measure => have := Hn.out; omega
          case rel => exact ⟨i + 1, _, _, by omega, rfl, by omega, rfl, ⟨by rw [HE.out, HD.out, relS, HQ.out]; rfl⟩, HB, Bxb, Bfb, Bbb, Brb, Bs⟩
    · have HE0 : Aside0 (relS he l0 0 F Bd = (F', B')) := ⟨by rw [HE.out, List.drop_eq_nil_of_le (by omega)]; rfl⟩
      go_wp2
      go_end0
      exact ⟨⟨_, rfl⟩, (ap_r HB), ⟨Bxb.out, by rw [HE0.out]; exact Bfb.out, by rw [HE0.out]; exact Bbb.out, Brb.out⟩⟩
end
end Go.Proofs.Ytkhnhkjihhhbbaa.P

