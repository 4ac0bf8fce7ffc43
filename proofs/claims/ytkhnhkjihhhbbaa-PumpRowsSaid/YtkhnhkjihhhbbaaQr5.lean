/- In a row of suspects, each beginning of which can be tested at the cost 1, the worst case of a hunt is the least k of which 2^k is at least their number: thermionlaw06.PumpRows returns true for every input, under no condition. -/
import Derived.Test.YtkhnhkjihhhbbaaQr3
import Derived.Test.YtkhnhkjihhhbbaaQr4
namespace Go.Proofs.Ytkhnhkjihhhbbaa.P
open Go.RowKit Go.Proofs.YtkhnhkjihhhbbaaW.PrintWords Go.Proofs.YtkhnhkjihhhbbaaW.PrintLast Go.Proofs.YtkhnhkjihhhbbaaW.PrintMore
set_option linter.unusedVariables false
set_option linter.unusedSimpArgs false
/-- What each vessel has, times a million: what stays. -/
def sum0 (out : List (Int × S32)) : List S32 → Int → List (Int × S32) → List (Int × S32)
  | [], _, M => M
  | f :: l, i, M => sum0 out l (i + 1) (mput M i ⟨wrap64 (f.f0 * wrap64 (1000000 - (lk out i).f1)), wrap64 (f.f1 * wrap64 (1000000 - (lk out i).f0))⟩)
def comesS (sh : List Int) (F : List S32) : List S138 → Int → List (Int × S32) → List (Int × S32)
  | [], _, M => M
  | p :: l, i, M => comesS sh F l (i + 1) (if hasB sh i = true then M else comeS F (comeS F M p.f1 p.f0 p.f2) p.f0 p.f1 p.f3)
def divS (M : List (Int × S32)) : Nat → Int → List S32 → List S32
  | 0, _, F => F
  | k + 1, i, F => divS M k (i + 1) (F.set i.toNat ⟨wrap64 (Int.tdiv (lk M i).f0 1000000), wrap64 (Int.tdiv (wrap64 (wrap64 ((lk M i).f1 + 1000000) - 1)) 1000000)⟩)
def leakS : List S140 → List S32 → List S32
  | [], F => F
  | x :: l, F => leakS l (F.set x.f0.toNat (addR (rd_T32 F x.f0) x.f1))
def flowS (l0 : List S36) (l1 : List S138) (l2 : List S112) (l3 : List S140) (sh : List Int) (F : List S32) : List S32 :=
  leakS l3 (divS (comesS sh F l1 0 (sum0 (leavingL l1 l2 sh) F 0 [])) l0.length 0 F)
section
variable {w0 w : World} {xb fb bb rb : Nat} {A0 A1 A2 A3 A4 As : Option Addr} {c0 c1 c2 c3 c4 cF cB cs : Nat} {vR : Value} {l0 : List S36} {l1 : List S138} {l2 : List S112} {l3 : List S140} {l4 : List S142} {F Bd Rm : List S32} {mo tk he : Int} {fl fs : Bool} {sh : List Int}
set_option maxHeartbeats 8000000 in
set_option maxRecDepth 100000 in
theorem flow_any (hE : Env w0 w xb fb bb rb A0 A1 A2 A3 A4 c0 c1 c2 c3 c4 l0 l1 l2 l3 l4) (hS : Sys xb fb bb rb A0 A1 A2 A3 A4 c0 c1 c2 c3 c4 cF cB vR l0 l1 l2 l3 l4 F Bd Rm mo fl w) (hrs : Kd.C (Kd.int .i64) w0 As sh.length sh) (hcs : sh.length ≤ cs) (hls : sh.length ≤ 100) (hfl : F.length = l0.length)
    (hpp : ∀ x ∈ l1, 0 ≤ x.f0 ∧ x.f0 < (l0.length : Int) ∧ 0 ≤ x.f1 ∧ x.f1 < (l0.length : Int)) (hlk : ∀ x ∈ l3, 0 ≤ x.f0 ∧ x.f0 < (l0.length : Int)) :
    Calls Try.prog 143 #[.pointer (some ⟨xb, 0, none⟩), .agg #[.int .i64 tk, .int .i64 he, .slice As sh.length cs, .bool fs]] w fun e w' => (∃ v, e = .returned v) ∧ Apart xb fb bb rb w w' ∧ Sys xb fb bb rb A0 A1 A2 A3 A4 c0 c1 c2 c3 c4 cF cB vR l0 l1 l2 l3 l4 (flowS l0 l1 l2 l3 sh F) Bd Rm mo fl w' := by
  obtain ⟨H0, hs1, hs2, hs3, hs4, hl1, hl2, hl3, hl4, n1, n2, n3, n4, n5, n6, hr0, hr1, hr2, hr3, hr4, hc0, hc1, hc2, hc3, hc4, hm0⟩ := hE
  have HX : Aside0 (xb < w.heap.size ∧ fb < w.heap.size ∧ bb < w.heap.size ∧ rb < w.heap.size) := ⟨hl1, hl2, hl3, hl4⟩
  have HG : Aside0 (w0.heap.size ≤ xb ∧ w0.heap.size ≤ fb ∧ w0.heap.size ≤ bb ∧ w0.heap.size ≤ rb ∧ w0.heap.size ≤ w.heap.size) := ⟨hs1, hs2, hs3, hs4, H0.size⟩
  have HW0 := Aside0.mk H0
  clear hl1 hl2 hl3 hl4 hs1 hs2 hs3 hs4 H0
  have N_xb_fb := Aside0.mk n1
  have N_xb_bb := Aside0.mk n2
  have N_xb_rb := Aside0.mk n3
  have N_fb_bb := Aside0.mk n4
  have N_fb_rb := Aside0.mk n5
  have N_bb_rb := Aside0.mk n6
  have HR0 := Aside0.mk hr0
  have HR1 := Aside0.mk hr1
  have HR2 := Aside0.mk hr2
  have HR3 := Aside0.mk hr3
  have HR4 := Aside0.mk hr4
  have HC0 := Aside0.mk hc0
  have HC1 := Aside0.mk hc1
  have HC2 := Aside0.mk hc2
  have HC3 := Aside0.mk hc3
  have HC4 := Aside0.mk hc4
  have HM := Aside0.mk hm0
  clear n1 n2 n3 n4 n5 n6 hr0 hr1 hr2 hr3 hr4 hc0 hc1 hc2 hc3 hc4 hm0
  have HB : Aside0 (Apart xb fb bb rb w w) := ⟨Apart.refl w⟩
  obtain ⟨hb1, hb2, hb3, hb4⟩ := hS
  have Bxb := Aside0.mk hb1
  have Bfb := Aside0.mk hb2
  have Bbb := Aside0.mk hb3
  have Brb := Aside0.mk hb4
  clear hb1 hb2 hb3 hb4
  have HRS := Aside0.mk hrs
  have HCS := Aside0.mk hcs
  have HLS := Aside0.mk hls
  have HFL := Aside0.mk hfl
  have HPP := Aside0.mk hpp
  have HLK := Aside0.mk hlk
  clear hrs hcs hls hfl hpp hlk
  have hf0 : ∀ (a b : Int) (w : World), (Instr.field 32 (.agg #[.int .i64 a, .int .i64 b]) 0).run Try.prog w = .ok (.int .i64 a) w := fun _ _ _ => by kernel_rfl
  have hf1 : ∀ (a b : Int) (w : World), (Instr.field 32 (.agg #[.int .i64 a, .int .i64 b]) 1).run Try.prog w = .ok (.int .i64 b) w := fun _ _ _ => by kernel_rfl
  have hmf : ∀ (fn : Fn) (first cap : Array Value) (w : World), (Instr.makeFunc fn first cap).run Try.prog w = .ok (.func fn first cap) w := fun _ _ _ _ => rfl
  obtain ⟨cxb_0, cxb_1, cxb_2, cxb_3, cxb_4, cxb_5, cxb_6, cxb_7, cxb_8, cxb_9⟩ := cells10 Bxb.out; 
  go_enter Try.func143, Try.ntmps143
  go_wp2_with (first | ((with_reducible refine gate_dst (N := 2) rfl ?_); go_must (refine box_ev (N := 2) (cs := #[.pointer (some ⟨xb, 0, none⟩)]) (t := 114) (h := ?_); intro p2 hgp2 w1 hbox hb; have GEp2 := ge_newx HB hgp2; have N_xb_p2 := ne_newx HX.out.1 HB hgp2; have N_fb_p2 := ne_newx HX.out.2.1 HB hgp2; have N_bb_p2 := ne_newx HX.out.2.2.1 HB hgp2; have N_rb_p2 := ne_newx HX.out.2.2.2 HB hgp2; replace HB := ap_b hb HB; replace Bxb := blk_b hb Bxb; (try clear cxb_0 cxb_1 cxb_2 cxb_3 cxb_4 cxb_5 cxb_6 cxb_7 cxb_8 cxb_9); obtain ⟨cxb_0, cxb_1, cxb_2, cxb_3, cxb_4, cxb_5, cxb_6, cxb_7, cxb_8, cxb_9⟩ := cells10 Bxb.out; replace Bfb := row_b hb Bfb; replace Bbb := row_b hb Bbb; replace Brb := row_b hb Brb; have Bp2 := Aside0.mk hbox; clear hbox; have cp2_0 := cells1 Bp2.out; (try clear hb); clear hgp2)) | ((with_reducible refine gate_dst (N := 3) rfl ?_); go_must (refine box_ev (N := 3) (cs := #[.int .i64 tk, .int .i64 he, .slice As sh.length cs, .bool fs]) (t := 45) (h := ?_); intro s hgs w2 hbox hb; have GEs := ge_newx HB hgs; have N_xb_s := ne_newx HX.out.1 HB hgs; have N_fb_s := ne_newx HX.out.2.1 HB hgs; have N_bb_s := ne_newx HX.out.2.2.1 HB hgs; have N_rb_s := ne_newx HX.out.2.2.2 HB hgs; have N_p2_s := ne_new Bp2 hgs; replace HB := ap_b hb HB; replace Bxb := blk_b hb Bxb; (try clear cxb_0 cxb_1 cxb_2 cxb_3 cxb_4 cxb_5 cxb_6 cxb_7 cxb_8 cxb_9); obtain ⟨cxb_0, cxb_1, cxb_2, cxb_3, cxb_4, cxb_5, cxb_6, cxb_7, cxb_8, cxb_9⟩ := cells10 Bxb.out; replace Bfb := row_b hb Bfb; replace Bbb := row_b hb Bbb; replace Brb := row_b hb Brb; replace Bp2 := blk_b hb Bp2; (try clear cp2_0); have cp2_0 := cells1 Bp2.out; have Bs := Aside0.mk hbox; clear hbox; obtain ⟨cs_0, cs_1, cs_2, cs_3⟩ := cells4 Bs.out; (try clear hb); clear hgs)))
  refine region_ri (n := 8) (B := [0, 1, 3, 7, 0, 16, 63, 127]) (fun o_ => match o_ with | 0 => some 14 | 1 => some 15 | 2 => some 16 | 3 => some 17 | 4 => some 18 | 5 => some 19 | 6 => some 20 | 7 => some 4 | _ => none) (fun o_ q_ w' => match o_ with | 0 => q_ = .pointer (some ⟨xb, 0, none⟩) | 1 => q_ = .pointer (some ⟨xb, 0, none⟩) | 2 => q_ = .pointer (some ⟨xb, 0, none⟩) | 3 => q_ = .agg #[.slice A0 l0.length c0, .slice A1 l1.length c1, .slice A2 l2.length c2, .slice A3 l3.length c3, .slice A4 l4.length c4] | 4 => q_ = .pointer (some ⟨s, 2, none⟩) | 5 => q_ = .slice As sh.length cs | 6 => (∃ m_, q_ = .map (some m_) ∧ w.heap.size ≤ m_ ∧ IsMap .i64 rangeV w' m_ (leavingL l1 l2 sh)) | 7 => (∃ m_, q_ = .map (some m_) ∧ w.heap.size ≤ m_ ∧ IsMap .i64 rangeV w' m_ (leavingL l1 l2 sh)) | _ => True) (fun b w' => Aside0 (Apart xb fb bb rb w w') ∧ Aside0 (w'.heap[xb]? = some (.cells #[.slice A0 l0.length c0, .slice A1 l1.length c1, .slice A2 l2.length c2, .slice A3 l3.length c3, .slice A4 l4.length c4, .slice (some ⟨fb, 0, none⟩) l0.length cF, .slice (some ⟨bb, 0, none⟩) l0.length cB, vR, .int .i64 mo, .bool fl] 119 (0, 0))) ∧ Aside0 (Row w' fb (.slice (some ⟨fb, 0, none⟩) l0.length cF) (F)) ∧ Aside0 (Row w' bb (.slice (some ⟨bb, 0, none⟩) l0.length cB) (Bd)) ∧ Aside0 (Row w' rb (vR) (Rm)) ∧ Aside0 (w'.heap[p2]? = some (.cells #[.pointer (some ⟨xb, 0, none⟩)] 114 (0, 0))) ∧ Aside0 (w'.heap[s]? = some (.cells #[.int .i64 tk, .int .i64 he, .slice As sh.length cs, .bool fs] 45 (0, 0)))) rfl rfl (by kernel_rfl) (by kernel_rfl) (by kernel_rfl) ⟨⟨Apart.step ((ap_r HB)) (below_drew (Below.refl _ _))⟩, ⟨blk_below (Bxb.out) (below_drew (Below.refl _ _))⟩, ⟨Row.below ((row_r Bfb)) (below_drew (Below.refl _ _))⟩, ⟨Row.below ((row_r Bbb)) (below_drew (Below.refl _ _))⟩, ⟨Row.below ((row_r Brb)) (below_drew (Below.refl _ _))⟩, ⟨blk_below (Bp2.out) (below_drew (Below.refl _ _))⟩, ⟨blk_below (Bs.out) (below_drew (Below.refl _ _))⟩⟩ ?_ ?_
  · intro o_ hi
    match o_, hi with
    | 0, _ =>
      intro b a wq hI hbi_ hb_ hoff_
      have e2 : a.eval (.tmp 2) = .pointer (some ⟨p2, 0, none⟩) := hI.old 2 (by decide) rfl
      have s2 := sv_ e2
      have hJ := hI.j
      obtain ⟨HBq, qxb, qfb, qbb, qrb, qp2, qs⟩ := hJ
      obtain ⟨cxb_0, cxb_1, cxb_2, cxb_3, cxb_4, cxb_5, cxb_6, cxb_7, cxb_8, cxb_9⟩ := cells10 qxb.out
      have cp2_0 := cells1 qp2.out
      obtain ⟨cs_0, cs_1, cs_2, cs_3⟩ := cells4 qs.out
      exact op_keep hI (i := 0) ⟨HBq, qxb, qfb, qbb, qrb, qp2, qs⟩ (hrun := gs_)
    | 1, _ =>
      intro b a wq hI hbi_ hb_ hoff_
      have e14 := hI.new 14 0 (by decide) (hb_ 0 (by decide)) rfl fun _ h => h
      have s14 := sv_ e14
      have hJ := hI.j
      obtain ⟨HBq, qxb, qfb, qbb, qrb, qp2, qs⟩ := hJ
      obtain ⟨cxb_0, cxb_1, cxb_2, cxb_3, cxb_4, cxb_5, cxb_6, cxb_7, cxb_8, cxb_9⟩ := cells10 qxb.out
      have cp2_0 := cells1 qp2.out
      obtain ⟨cs_0, cs_1, cs_2, cs_3⟩ := cells4 qs.out
      exact op_keep hI (i := 1) ⟨HBq, qxb, qfb, qbb, qrb, qp2, qs⟩ (hrun := gs_)
    | 2, _ =>
      intro b a wq hI hbi_ hb_ hoff_
      have e15 := hI.new 15 1 (by decide) (hb_ 1 (by decide)) rfl fun _ h => h
      have s15 := sv_ e15
      have hJ := hI.j
      obtain ⟨HBq, qxb, qfb, qbb, qrb, qp2, qs⟩ := hJ
      obtain ⟨cxb_0, cxb_1, cxb_2, cxb_3, cxb_4, cxb_5, cxb_6, cxb_7, cxb_8, cxb_9⟩ := cells10 qxb.out
      have cp2_0 := cells1 qp2.out
      obtain ⟨cs_0, cs_1, cs_2, cs_3⟩ := cells4 qs.out
      exact op_keep hI (i := 2) ⟨HBq, qxb, qfb, qbb, qrb, qp2, qs⟩ (hrun := gs_)
    | 3, _ =>
      intro b a wq hI hbi_ hb_ hoff_
      have e16 := hI.new 16 2 (by decide) (hb_ 2 (by decide)) rfl fun _ h => h
      have s16 := sv_ e16
      have hJ := hI.j
      obtain ⟨HBq, qxb, qfb, qbb, qrb, qp2, qs⟩ := hJ
      obtain ⟨cxb_0, cxb_1, cxb_2, cxb_3, cxb_4, cxb_5, cxb_6, cxb_7, cxb_8, cxb_9⟩ := cells10 qxb.out
      have cp2_0 := cells1 qp2.out
      obtain ⟨cs_0, cs_1, cs_2, cs_3⟩ := cells4 qs.out
      exact op_keep hI (i := 3) ⟨HBq, qxb, qfb, qbb, qrb, qp2, qs⟩ (hrun := gs_)
    | 4, _ =>
      intro b a wq hI hbi_ hb_ hoff_
      have e3 : a.eval (.tmp 3) = .pointer (some ⟨s, 0, none⟩) := hI.old 3 (by decide) rfl
      have s3 := sv_ e3
      have hJ := hI.j
      obtain ⟨HBq, qxb, qfb, qbb, qrb, qp2, qs⟩ := hJ
      obtain ⟨cxb_0, cxb_1, cxb_2, cxb_3, cxb_4, cxb_5, cxb_6, cxb_7, cxb_8, cxb_9⟩ := cells10 qxb.out
      have cp2_0 := cells1 qp2.out
      obtain ⟨cs_0, cs_1, cs_2, cs_3⟩ := cells4 qs.out
      exact op_keep hI (i := 4) ⟨HBq, qxb, qfb, qbb, qrb, qp2, qs⟩ (hrun := gs_)
    | 5, _ =>
      intro b a wq hI hbi_ hb_ hoff_
      have e18 := hI.new 18 4 (by decide) (hb_ 4 (by decide)) rfl fun _ h => h
      have s18 := sv_ e18
      have hJ := hI.j
      obtain ⟨HBq, qxb, qfb, qbb, qrb, qp2, qs⟩ := hJ
      obtain ⟨cxb_0, cxb_1, cxb_2, cxb_3, cxb_4, cxb_5, cxb_6, cxb_7, cxb_8, cxb_9⟩ := cells10 qxb.out
      have cp2_0 := cells1 qp2.out
      obtain ⟨cs_0, cs_1, cs_2, cs_3⟩ := cells4 qs.out
      exact op_keep hI (i := 5) ⟨HBq, qxb, qfb, qbb, qrb, qp2, qs⟩ (hrun := gs_)
    | 6, _ =>
      intro b a wq hI hbi_ hb_ hoff_
      have e17 := hI.new 17 3 (by decide) (hb_ 3 (by decide)) rfl fun _ h => h
      have s17 := sv_ e17
      have e19 := hI.new 19 5 (by decide) (hb_ 5 (by decide)) rfl fun _ h => h
      have s19 := sv_ e19
      have hJ := hI.j
      obtain ⟨HBq, qxb, qfb, qbb, qrb, qp2, qs⟩ := hJ
      obtain ⟨cxb_0, cxb_1, cxb_2, cxb_3, cxb_4, cxb_5, cxb_6, cxb_7, cxb_8, cxb_9⟩ := cells10 qxb.out
      have cp2_0 := cells1 qp2.out
      obtain ⟨cs_0, cs_1, cs_2, cs_3⟩ := cells4 qs.out
      refine ⟨_, rfl, rfl, fun K hK => ?_⟩
      refine goes_ Try.func99 (by kernel_rfl) rfl #[.agg #[.slice A0 l0.length c0, .slice A1 l1.length c1, .slice A2 l2.length c2, .slice A3 l3.length c3, .slice A4 l4.length c4], .slice As sh.length cs] rfl rfl rfl (by simp [e17, e19]) ?_
      refine (leaving_any l1 l2 sh A0 A1 A2 A3 A4 As l0.length c0 c1 c2 l3.length c3 l4.length c4 cs wq (Kd.C_below HR1.out (Apart.below (show Apart xb fb bb rb w _ from (ap_r HBq)) HW0.out HG.out.2.2.2.2 HG.out.1 HG.out.2.1 HG.out.2.2.1 HG.out.2.2.2.1)) (Kd.C_below HR2.out (Apart.below (show Apart xb fb bb rb w _ from (ap_r HBq)) HW0.out HG.out.2.2.2.2 HG.out.1 HG.out.2.1 HG.out.2.2.1 HG.out.2.2.2.1)) (Kd.C_below HRS.out (Apart.below (show Apart xb fb bb rb w _ from (ap_r HBq)) HW0.out HG.out.2.2.2.2 HG.out.1 HG.out.2.1 HG.out.2.2.1 HG.out.2.2.2.1)) HC1.out HC2.out HCS.out (by have := HM.out; omega) (by have := HM.out; omega) (by have := HLS.out; omega)).mono ?_
      rintro e w2 ⟨m_, rfl, gm_, ⟨hm_⟩, hb2⟩
      exact ⟨_, rfl, hK _ _ ⟨⟨Apart.step HBq.out hb2⟩, ⟨blk_below (qxb.out) hb2⟩, ⟨Row.below ((row_r qfb)) hb2⟩, ⟨Row.below ((row_r qbb)) hb2⟩, ⟨Row.below ((row_r qrb)) hb2⟩, ⟨blk_below (qp2.out) hb2⟩, ⟨blk_below (qs.out) hb2⟩⟩ (fun k u hk => by revert hk; match k with | 0 => exact id | 1 => exact id | 2 => exact id | 3 => exact id | 4 => exact id | 5 => exact id | 6 => exact (fun ⟨m_, h1_, h2_, h3_⟩ => ⟨m_, h1_, h2_, h3_.below hb2⟩) | 7 => exact (fun ⟨m_, h1_, h2_, h3_⟩ => ⟨m_, h1_, h2_, h3_.below hb2⟩) | k + 8 => exact id) ⟨m_, rfl, Nat.le_trans HBq.out.size gm_, hm_⟩⟩
    | 7, _ =>
      intro b a wq hI hbi_ hb_ hoff_
      obtain ⟨y20, hy20, hT20⟩ := hI.t 6 20 (by decide) (hb_ 6 (by decide)) rfl
      have e20 := eval_of hy20
      have s20 : a.tmps[20]?.getD undef = y20 := by simpa [Act.eval] using e20
      have hJ := hI.j
      obtain ⟨HBq, qxb, qfb, qbb, qrb, qp2, qs⟩ := hJ
      obtain ⟨cxb_0, cxb_1, cxb_2, cxb_3, cxb_4, cxb_5, cxb_6, cxb_7, cxb_8, cxb_9⟩ := cells10 qxb.out
      have cp2_0 := cells1 qp2.out
      obtain ⟨cs_0, cs_1, cs_2, cs_3⟩ := cells4 qs.out
      refine ⟨_, rfl, rfl, fun K hK => ?_⟩
      refine value_ (N := some 4) rfl rfl (v := y20) (w1 := wq) gs_ (hK _ _ ⟨HBq, qxb, qfb, qbb, qrb, qp2, qs⟩ (fun _ _ h => h) hT20)
    | o_ + 8, hi => exact absurd hi (by omega)
  intro vs wn b_ hall hJ hT
  obtain ⟨HJ0, HT0⟩ : Aside0 _ ∧ Aside0 _ := ⟨⟨hJ⟩, ⟨hT⟩⟩
  clear hall hJ hT
  have t0_ := HT0.out 0 (by decide) (by decide)
  have t1_ := HT0.out 1 (by decide) (by decide)
  have t2_ := HT0.out 2 (by decide) (by decide)
  have t3_ := HT0.out 3 (by decide) (by decide)
  have t4_ := HT0.out 4 (by decide) (by decide)
  have t5_ := HT0.out 5 (by decide) (by decide)
  obtain ⟨om2, t6_, g6_, m6_⟩ := HT0.out 6 (by decide) (by decide)
  obtain ⟨om, t7_, g7_, m7_⟩ := HT0.out 7 (by decide) (by decide)
  simp only [fillAll, show List.range 8 = [0, 1, 2, 3, 4, 5, 6, 7] from rfl]
  rw [(show vs 0 = _ from t0_), (show vs 1 = _ from t1_), (show vs 2 = _ from t2_), (show vs 3 = _ from t3_), (show vs 4 = _ from t4_), (show vs 5 = _ from t5_), (show vs 6 = _ from t6_), (show vs 7 = _ from t7_)]
  clear t0_ t1_ t2_ t3_ t4_ t5_ t6_ t7_ g6_ m6_ HT0
  simp only [Act.put, List.setIfInBounds_toArray, List.set_cons_zero, List.set_cons_succ]
  have GEom := Aside0.mk g7_
  clear g7_
  have N_xb_om : Aside0 (xb ≠ om) := ⟨Nat.ne_of_lt (Nat.lt_of_lt_of_le HX.out.1 GEom.out)⟩
  have N_fb_om : Aside0 (fb ≠ om) := ⟨Nat.ne_of_lt (Nat.lt_of_lt_of_le HX.out.2.1 GEom.out)⟩
  have N_bb_om : Aside0 (bb ≠ om) := ⟨Nat.ne_of_lt (Nat.lt_of_lt_of_le HX.out.2.2.1 GEom.out)⟩
  have N_rb_om : Aside0 (rb ≠ om) := ⟨Nat.ne_of_lt (Nat.lt_of_lt_of_le HX.out.2.2.2 GEom.out)⟩
  have Bom := Aside0.mk m7_
  clear m7_ HB Bxb Bfb Bbb Brb Bp2 Bs
  (try clear cxb_0 cxb_1 cxb_2 cxb_3 cxb_4 cxb_5 cxb_6 cxb_7 cxb_8 cxb_9); (try clear cp2_0); (try clear cs_0 cs_1 cs_2 cs_3)
  obtain ⟨HB, Bxb, Bfb, Bbb, Brb, Bp2, Bs⟩ := HJ0.out
  clear HJ0
  have N_p2_om : Aside0 (p2 ≠ om) := ⟨fun e_ => by have h1_ := Bp2.out; rw [e_, show wn.heap[om]? = _ from Bom.out] at h1_; cases h1_⟩
  have N_s_om : Aside0 (s ≠ om) := ⟨fun e_ => by have h1_ := Bs.out; rw [e_, show wn.heap[om]? = _ from Bom.out] at h1_; cases h1_⟩
  obtain ⟨cxb_0, cxb_1, cxb_2, cxb_3, cxb_4, cxb_5, cxb_6, cxb_7, cxb_8, cxb_9⟩ := cells10 Bxb.out; have cp2_0 := cells1 Bp2.out; obtain ⟨cs_0, cs_1, cs_2, cs_3⟩ := cells4 Bs.out
  go_wp2_with (first | ((with_reducible refine gate_dst (N := 21) rfl ?_); go_must (refine make_event rfl 159 rfl .i64 rangeV ?_; intro mm hgmm w3 hbox hb; have GEmm := ge_newx HB hgmm; have N_xb_mm := ne_newx HX.out.1 HB hgmm; have N_fb_mm := ne_newx HX.out.2.1 HB hgmm; have N_bb_mm := ne_newx HX.out.2.2.1 HB hgmm; have N_rb_mm := ne_newx HX.out.2.2.2 HB hgmm; have N_p2_mm := ne_new Bp2 hgmm; have N_s_mm := ne_new Bs hgmm; have N_om_mm := ne_new Bom hgmm; replace HB := ap_b hb HB; replace Bxb := blk_b hb Bxb; (try clear cxb_0 cxb_1 cxb_2 cxb_3 cxb_4 cxb_5 cxb_6 cxb_7 cxb_8 cxb_9); obtain ⟨cxb_0, cxb_1, cxb_2, cxb_3, cxb_4, cxb_5, cxb_6, cxb_7, cxb_8, cxb_9⟩ := cells10 Bxb.out; replace Bfb := row_b hb Bfb; replace Bbb := row_b hb Bbb; replace Brb := row_b hb Brb; replace Bp2 := blk_b hb Bp2; (try clear cp2_0); have cp2_0 := cells1 Bp2.out; replace Bs := blk_b hb Bs; (try clear cs_0 cs_1 cs_2 cs_3); obtain ⟨cs_0, cs_1, cs_2, cs_3⟩ := cells4 Bs.out; replace Bom := map_b hb Bom; have Bmm := Aside0.mk hbox; clear hbox; (try clear hb); clear hgmm)) | ((with_reducible refine gate_dst (N := 5) rfl ?_); go_must (refine box_ev (N := 5) (cs := #[.map none]) (t := 159) (h := ?_); intro p5 hgp5 w4 hbox hb; have GEp5 := ge_newx HB hgp5; have N_xb_p5 := ne_newx HX.out.1 HB hgp5; have N_fb_p5 := ne_newx HX.out.2.1 HB hgp5; have N_bb_p5 := ne_newx HX.out.2.2.1 HB hgp5; have N_rb_p5 := ne_newx HX.out.2.2.2 HB hgp5; have N_p2_p5 := ne_new Bp2 hgp5; have N_s_p5 := ne_new Bs hgp5; have N_om_p5 := ne_new Bom hgp5; have N_mm_p5 := ne_new Bmm hgp5; replace HB := ap_b hb HB; replace Bxb := blk_b hb Bxb; (try clear cxb_0 cxb_1 cxb_2 cxb_3 cxb_4 cxb_5 cxb_6 cxb_7 cxb_8 cxb_9); obtain ⟨cxb_0, cxb_1, cxb_2, cxb_3, cxb_4, cxb_5, cxb_6, cxb_7, cxb_8, cxb_9⟩ := cells10 Bxb.out; replace Bfb := row_b hb Bfb; replace Bbb := row_b hb Bbb; replace Brb := row_b hb Brb; replace Bp2 := blk_b hb Bp2; (try clear cp2_0); have cp2_0 := cells1 Bp2.out; replace Bs := blk_b hb Bs; (try clear cs_0 cs_1 cs_2 cs_3); obtain ⟨cs_0, cs_1, cs_2, cs_3⟩ := cells4 Bs.out; replace Bom := map_b hb Bom; replace Bmm := map_b hb Bmm; have Bp5 := Aside0.mk hbox; clear hbox; have cp5_0 := cells1 Bp5.out; (try clear hb); clear hgp5)) | ((with_reducible refine gate_store (t := 159) (p := 5) rfl ?_); go_must (refine cell_ev p5 0 (.map (some mm)) (cells := #[.map (some mm)]) Bp5.out (h := ?_); intro w5 hbox ho_; replace HB := ap_o ho_ HB (Or.inr (Or.inr (Or.inr (Or.inr GEp5.out)))); replace Bxb := blk_o ho_ Bxb (by first | exact N_xb_p5.out | exact N_p5_xb.out.symm); (try clear cxb_0 cxb_1 cxb_2 cxb_3 cxb_4 cxb_5 cxb_6 cxb_7 cxb_8 cxb_9); obtain ⟨cxb_0, cxb_1, cxb_2, cxb_3, cxb_4, cxb_5, cxb_6, cxb_7, cxb_8, cxb_9⟩ := cells10 Bxb.out; replace Bfb := row_o ho_ Bfb (by first | exact N_fb_p5.out | exact N_p5_fb.out.symm); replace Bbb := row_o ho_ Bbb (by first | exact N_bb_p5.out | exact N_p5_bb.out.symm); replace Brb := row_o ho_ Brb (by first | exact N_rb_p5.out | exact N_p5_rb.out.symm); replace Bp2 := blk_o ho_ Bp2 (by first | exact N_p2_p5.out | exact N_p5_p2.out.symm); (try clear cp2_0); have cp2_0 := cells1 Bp2.out; replace Bs := blk_o ho_ Bs (by first | exact N_s_p5.out | exact N_p5_s.out.symm); (try clear cs_0 cs_1 cs_2 cs_3); obtain ⟨cs_0, cs_1, cs_2, cs_3⟩ := cells4 Bs.out; replace Bom := map_o ho_ Bom (by first | exact N_om_p5.out | exact N_p5_om.out.symm); replace Bmm := map_o ho_ Bmm (by first | exact N_mm_p5.out | exact N_p5_mm.out.symm); replace Bp5 := Aside0.mk hbox; clear hbox ho_; (try clear cp5_0); have cp5_0 := cells1 Bp5.out; )))
  (try clear cxb_0 cxb_1 cxb_2 cxb_3 cxb_4 cxb_5 cxb_6 cxb_7 cxb_8 cxb_9); (try clear cp2_0); (try clear cs_0 cs_1 cs_2 cs_3); (try clear cp5_0)
  go_loopg [28] (l0.length) (fun k v28 w' => ∃ (i : Int) (M : List (Int × S32)), 0 ≤ i ∧ k = l0.length - i.toNat ∧ i ≤ l0.length ∧ v28 = .int .i64 i ∧ Aside0 (sum0 (leavingL l1 l2 sh) F 0 [] = sum0 (leavingL l1 l2 sh) (F.drop i.toNat) i M) ∧ Aside0 (Apart xb fb bb rb w w') ∧ Aside0 (w'.heap[xb]? = some (.cells #[.slice A0 l0.length c0, .slice A1 l1.length c1, .slice A2 l2.length c2, .slice A3 l3.length c3, .slice A4 l4.length c4, .slice (some ⟨fb, 0, none⟩) l0.length cF, .slice (some ⟨bb, 0, none⟩) l0.length cB, vR, .int .i64 mo, .bool fl] 119 (0, 0))) ∧ Aside0 (Row w' fb (.slice (some ⟨fb, 0, none⟩) l0.length cF) (F)) ∧ Aside0 (Row w' bb (.slice (some ⟨bb, 0, none⟩) l0.length cB) (Bd)) ∧ Aside0 (Row w' rb (vR) (Rm)) ∧ Aside0 (w'.heap[p2]? = some (.cells #[.pointer (some ⟨xb, 0, none⟩)] 114 (0, 0))) ∧ Aside0 (w'.heap[s]? = some (.cells #[.int .i64 tk, .int .i64 he, .slice As sh.length cs, .bool fs] 45 (0, 0))) ∧ Aside0 (IsMap .i64 rangeV w' om (leavingL l1 l2 sh)) ∧ Aside0 (IsMap .i64 rangeV w' mm (M)) ∧ Aside0 (w'.heap[p5]? = some (.cells #[.map (some mm)] 159 (0, 0))))
  case atStart => exact ⟨0, [], by omega, by simp, by omega, rfl, ⟨by simp⟩, HB, Bxb, Bfb, Bbb, Brb, Bp2, Bs, Bom, Bmm, Bp5⟩
  case round =>
    clear HB Bxb Bfb Bbb Brb Bp2 Bs Bom Bmm Bp5
    obtain ⟨i, M, hi0, hn, hi, rfl, HE, HB, Bxb, Bfb, Bbb, Brb, Bp2, Bs, Bom, Bmm, Bp5⟩ := hrel
    have Hn := Aside0.mk hn
    clear hn
    by_cases hi' : i < l0.length
    · have HD : Aside0 (F.drop i.toNat = (rd_T32 F i) :: F.drop (i + 1).toNat) := ⟨by
        have := HFL.out
        rw [show (i + 1).toNat = i.toNat + 1 by omega, List.drop_eq_getElem_cons (by omega)]; unfold rd_T32; simp [List.getD_eq_getElem?_getD, List.getElem?_eq_getElem (show i.toNat < F.length by omega)]⟩
      obtain ⟨cxb_0, cxb_1, cxb_2, cxb_3, cxb_4, cxb_5, cxb_6, cxb_7, cxb_8, cxb_9⟩ := cells10 Bxb.out; obtain ⟨cfb_0, dfb_0⟩ := Row.cells Bfb.out i hi0 hi'; have cp2_0 := cells1 Bp2.out; obtain ⟨cs_0, cs_1, cs_2, cs_3⟩ := cells4 Bs.out; have cp5_0 := cells1 Bp5.out
      have hm3 := HM.out.1
      go_wp2_with (first | ((with_reducible refine gate_dst (N := 7) rfl ?_); go_must (refine box_ev (N := 7) (cs := #[.int .i64 0, .int .i64 0]) (t := 32) (h := ?_); intro q7 hgq7 w6 hbox hb; have GEq7 := ge_newx HB hgq7; have N_xb_q7 := ne_newx HX.out.1 HB hgq7; have N_fb_q7 := ne_newx HX.out.2.1 HB hgq7; have N_bb_q7 := ne_newx HX.out.2.2.1 HB hgq7; have N_rb_q7 := ne_newx HX.out.2.2.2 HB hgq7; have N_p2_q7 := ne_new Bp2 hgq7; have N_s_q7 := ne_new Bs hgq7; have N_om_q7 := ne_new Bom hgq7; have N_mm_q7 := ne_new Bmm hgq7; have N_p5_q7 := ne_new Bp5 hgq7; replace HB := ap_b hb HB; replace Bxb := blk_b hb Bxb; (try clear cxb_0 cxb_1 cxb_2 cxb_3 cxb_4 cxb_5 cxb_6 cxb_7 cxb_8 cxb_9); obtain ⟨cxb_0, cxb_1, cxb_2, cxb_3, cxb_4, cxb_5, cxb_6, cxb_7, cxb_8, cxb_9⟩ := cells10 Bxb.out; replace Bfb := row_b hb Bfb; (try clear cfb_0 dfb_0); obtain ⟨cfb_0, dfb_0⟩ := Row.cells Bfb.out i hi0 hi'; replace Bbb := row_b hb Bbb; replace Brb := row_b hb Brb; replace Bp2 := blk_b hb Bp2; (try clear cp2_0); have cp2_0 := cells1 Bp2.out; replace Bs := blk_b hb Bs; (try clear cs_0 cs_1 cs_2 cs_3); obtain ⟨cs_0, cs_1, cs_2, cs_3⟩ := cells4 Bs.out; replace Bom := map_b hb Bom; replace Bmm := map_b hb Bmm; replace Bp5 := blk_b hb Bp5; (try clear cp5_0); have cp5_0 := cells1 Bp5.out; have Bq7 := Aside0.mk hbox; clear hbox; obtain ⟨cq7_0, cq7_1⟩ := cells2 Bq7.out; (try clear hb); clear hgq7)) | ((with_reducible refine gate_store (t := 32) (p := 7) rfl ?_); go_must (refine row_ev q7 #[.int .i64 (rd_T32 F i).f0, .int .i64 (rd_T32 F i).f1] Bq7.out (h := ?_); intro w7 hbox ho_; replace HB := ap_o ho_ HB (Or.inr (Or.inr (Or.inr (Or.inr GEq7.out)))); replace Bxb := blk_o ho_ Bxb (by first | exact N_xb_q7.out | exact N_q7_xb.out.symm); (try clear cxb_0 cxb_1 cxb_2 cxb_3 cxb_4 cxb_5 cxb_6 cxb_7 cxb_8 cxb_9); obtain ⟨cxb_0, cxb_1, cxb_2, cxb_3, cxb_4, cxb_5, cxb_6, cxb_7, cxb_8, cxb_9⟩ := cells10 Bxb.out; replace Bfb := row_o ho_ Bfb (by first | exact N_fb_q7.out | exact N_q7_fb.out.symm); (try clear cfb_0 dfb_0); obtain ⟨cfb_0, dfb_0⟩ := Row.cells Bfb.out i hi0 hi'; replace Bbb := row_o ho_ Bbb (by first | exact N_bb_q7.out | exact N_q7_bb.out.symm); replace Brb := row_o ho_ Brb (by first | exact N_rb_q7.out | exact N_q7_rb.out.symm); replace Bp2 := blk_o ho_ Bp2 (by first | exact N_p2_q7.out | exact N_q7_p2.out.symm); (try clear cp2_0); have cp2_0 := cells1 Bp2.out; replace Bs := blk_o ho_ Bs (by first | exact N_s_q7.out | exact N_q7_s.out.symm); (try clear cs_0 cs_1 cs_2 cs_3); obtain ⟨cs_0, cs_1, cs_2, cs_3⟩ := cells4 Bs.out; replace Bom := map_o ho_ Bom (by first | exact N_om_q7.out | exact N_q7_om.out.symm); replace Bmm := map_o ho_ Bmm (by first | exact N_mm_q7.out | exact N_q7_mm.out.symm); replace Bp5 := blk_o ho_ Bp5 (by first | exact N_p5_q7.out | exact N_q7_p5.out.symm); (try clear cp5_0); have cp5_0 := cells1 Bp5.out; replace Bq7 := Aside0.mk hbox; clear hbox ho_; (try clear cq7_0 cq7_1); obtain ⟨cq7_0, cq7_1⟩ := cells2 Bq7.out; )) | ((with_reducible refine gate_dst (N := 39) rfl ?_); go_must (refine lk_event rfl (.tmp 37) (.tmp 38) rfl rfl i rfl Bom.out ?_)) | ((with_reducible refine gate_dst (N := 47) rfl ?_); go_must (refine lk_event rfl (.tmp 45) (.tmp 46) rfl rfl i rfl Bom.out ?_)) | ((with_reducible refine gate_update (t := 33) rfl ?_); go_must (refine upd_event rfl rfl (.tmp 33) (.tmp 34) (.tmp 51) rfl rfl i rfl ((⟨wrap64 ((rd_T32 F i).f0 * wrap64 (1000000 - (lk (leavingL l1 l2 sh) i).f1)), wrap64 ((rd_T32 F i).f1 * wrap64 (1000000 - (lk (leavingL l1 l2 sh) i).f0))⟩ : S32)) rfl Bmm.out ?_; intro w8 hbox ho_; replace HB := ap_o ho_ HB (Or.inr (Or.inr (Or.inr (Or.inr GEmm.out)))); replace Bxb := blk_o ho_ Bxb (by first | exact N_xb_mm.out | exact N_mm_xb.out.symm); (try clear cxb_0 cxb_1 cxb_2 cxb_3 cxb_4 cxb_5 cxb_6 cxb_7 cxb_8 cxb_9); obtain ⟨cxb_0, cxb_1, cxb_2, cxb_3, cxb_4, cxb_5, cxb_6, cxb_7, cxb_8, cxb_9⟩ := cells10 Bxb.out; replace Bfb := row_o ho_ Bfb (by first | exact N_fb_mm.out | exact N_mm_fb.out.symm); (try clear cfb_0 dfb_0); obtain ⟨cfb_0, dfb_0⟩ := Row.cells Bfb.out i hi0 hi'; replace Bbb := row_o ho_ Bbb (by first | exact N_bb_mm.out | exact N_mm_bb.out.symm); replace Brb := row_o ho_ Brb (by first | exact N_rb_mm.out | exact N_mm_rb.out.symm); replace Bp2 := blk_o ho_ Bp2 (by first | exact N_p2_mm.out | exact N_mm_p2.out.symm); (try clear cp2_0); have cp2_0 := cells1 Bp2.out; replace Bs := blk_o ho_ Bs (by first | exact N_s_mm.out | exact N_mm_s.out.symm); (try clear cs_0 cs_1 cs_2 cs_3); obtain ⟨cs_0, cs_1, cs_2, cs_3⟩ := cells4 Bs.out; replace Bom := map_o ho_ Bom (by first | exact N_om_mm.out | exact N_mm_om.out.symm); replace Bp5 := blk_o ho_ Bp5 (by first | exact N_p5_mm.out | exact N_mm_p5.out.symm); (try clear cp5_0); have cp5_0 := cells1 Bp5.out; replace Bq7 := blk_o ho_ Bq7 (by first | exact N_q7_mm.out | exact N_mm_q7.out.symm); (try clear cq7_0 cq7_1); obtain ⟨cq7_0, cq7_1⟩ := cells2 Bq7.out; replace Bmm := Aside0.mk hbox; clear hbox ho_; )))
      (try clear cxb_0 cxb_1 cxb_2 cxb_3 cxb_4 cxb_5 cxb_6 cxb_7 cxb_8 cxb_9); (try clear cfb_0 dfb_0); (try clear cp2_0); (try clear cs_0 cs_1 cs_2 cs_3); (try clear cp5_0); (try clear cq7_0 cq7_1)
      go_roundg (l0.length - (i + 1).toNat)
      case measure => have := Hn.out; omega
      case rel => exact ⟨i + 1, mput M i (⟨wrap64 ((rd_T32 F i).f0 * wrap64 (1000000 - (lk (leavingL l1 l2 sh) i).f1)), wrap64 ((rd_T32 F i).f1 * wrap64 (1000000 - (lk (leavingL l1 l2 sh) i).f0))⟩ : S32), by omega, rfl, by omega, rfl, ⟨by rw [HE.out, HD.out, sum0]⟩, ⟨(ap_r HB)⟩, ⟨Bxb.out⟩, ⟨(row_r Bfb)⟩, ⟨(row_r Bbb)⟩, ⟨(row_r Brb)⟩, ⟨Bp2.out⟩, ⟨Bs.out⟩, ⟨Bom.out⟩, ⟨Bmm.out⟩, ⟨Bp5.out⟩⟩
    · have HE1 : Aside0 (sum0 (leavingL l1 l2 sh) F 0 [] = M) := ⟨by have := HFL.out; rw [HE.out, List.drop_eq_nil_of_le (by omega)]; rfl⟩
      have nBmm : Aside0 (IsMap .i64 rangeV wr mm ((sum0 (leavingL l1 l2 sh) F 0 []))) := ⟨by rw [HE1.out]; exact Bmm.out⟩
      clear Bmm HE1 HE Hn
      have Bmm := nBmm
      clear nBmm
      obtain ⟨cxb_0, cxb_1, cxb_2, cxb_3, cxb_4, cxb_5, cxb_6, cxb_7, cxb_8, cxb_9⟩ := cells10 Bxb.out; have cp2_0 := cells1 Bp2.out; obtain ⟨cs_0, cs_1, cs_2, cs_3⟩ := cells4 Bs.out; have cp5_0 := cells1 Bp5.out
      go_wp2
      clear hi hi0 hi'
      (try clear cxb_0 cxb_1 cxb_2 cxb_3 cxb_4 cxb_5 cxb_6 cxb_7 cxb_8 cxb_9); (try clear cp2_0); (try clear cs_0 cs_1 cs_2 cs_3); (try clear cp5_0)
      go_loopg [60] (l1.length) (fun k v60 w' => ∃ (i : Int) (M : List (Int × S32)), 0 ≤ i ∧ k = l1.length - i.toNat ∧ i ≤ l1.length ∧ v60 = .int .i64 i ∧ Aside0 (comesS sh F l1 0 (sum0 (leavingL l1 l2 sh) F 0 []) = comesS sh F (l1.drop i.toNat) i M) ∧ Aside0 (Apart xb fb bb rb w w') ∧ Aside0 (w'.heap[xb]? = some (.cells #[.slice A0 l0.length c0, .slice A1 l1.length c1, .slice A2 l2.length c2, .slice A3 l3.length c3, .slice A4 l4.length c4, .slice (some ⟨fb, 0, none⟩) l0.length cF, .slice (some ⟨bb, 0, none⟩) l0.length cB, vR, .int .i64 mo, .bool fl] 119 (0, 0))) ∧ Aside0 (Row w' fb (.slice (some ⟨fb, 0, none⟩) l0.length cF) (F)) ∧ Aside0 (Row w' bb (.slice (some ⟨bb, 0, none⟩) l0.length cB) (Bd)) ∧ Aside0 (Row w' rb (vR) (Rm)) ∧ Aside0 (w'.heap[p2]? = some (.cells #[.pointer (some ⟨xb, 0, none⟩)] 114 (0, 0))) ∧ Aside0 (w'.heap[s]? = some (.cells #[.int .i64 tk, .int .i64 he, .slice As sh.length cs, .bool fs] 45 (0, 0))) ∧ Aside0 (IsMap .i64 rangeV w' om (leavingL l1 l2 sh)) ∧ Aside0 (IsMap .i64 rangeV w' mm (M)) ∧ Aside0 (w'.heap[p5]? = some (.cells #[.map (some mm)] 159 (0, 0))))
      case atStart => exact ⟨0, (sum0 (leavingL l1 l2 sh) F 0 []), by omega, by simp, by omega, rfl, ⟨by simp⟩, ⟨(ap_r HB)⟩, ⟨Bxb.out⟩, ⟨(row_r Bfb)⟩, ⟨(row_r Bbb)⟩, ⟨(row_r Brb)⟩, ⟨Bp2.out⟩, ⟨Bs.out⟩, ⟨Bom.out⟩, ⟨Bmm.out⟩, ⟨Bp5.out⟩⟩
      case round =>
        clear HB Bxb Bfb Bbb Brb Bp2 Bs Bom Bmm Bp5
        obtain ⟨i, M, hi0, hn, hi, rfl, HE, HB, Bxb, Bfb, Bbb, Brb, Bp2, Bs, Bom, Bmm, Bp5⟩ := hrel
        have Hn := Aside0.mk hn
        clear hn
        obtain ⟨cxb_0, cxb_1, cxb_2, cxb_3, cxb_4, cxb_5, cxb_6, cxb_7, cxb_8, cxb_9⟩ := cells10 Bxb.out; have cp2_0 := cells1 Bp2.out; obtain ⟨cs_0, cs_1, cs_2, cs_3⟩ := cells4 Bs.out; have cp5_0 := cells1 Bp5.out
        by_cases hi' : i < l1.length
        · have HD : Aside0 (l1.drop i.toNat = (rd_T138 l1 i) :: l1.drop (i + 1).toNat) := ⟨by
            rw [show (i + 1).toNat = i.toNat + 1 by omega, List.drop_eq_getElem_cons (by omega)]; unfold rd_T138; simp [List.getD_eq_getElem?_getD, List.getElem?_eq_getElem (show i.toNat < l1.length by omega)]⟩
          have hel := HPP.out (rd_T138 l1 i) (List.mem_of_mem_drop (HD.out ▸ List.mem_cons_self))
          obtain ⟨ad, had, k0, k1, k2, k3, k4, k5⟩ := at_T138 HR1.out i hi0 (hi')
          replace k0 := pw_cell_below (Apart.below (show Apart xb fb bb rb w _ from (ap_r HB)) HW0.out HG.out.2.2.2.2 HG.out.1 HG.out.2.1 HG.out.2.2.1 HG.out.2.2.2.1) k0
          replace k1 := pw_cell_below (Apart.below (show Apart xb fb bb rb w _ from (ap_r HB)) HW0.out HG.out.2.2.2.2 HG.out.1 HG.out.2.1 HG.out.2.2.1 HG.out.2.2.2.1) k1
          replace k2 := pw_cell_below (Apart.below (show Apart xb fb bb rb w _ from (ap_r HB)) HW0.out HG.out.2.2.2.2 HG.out.1 HG.out.2.1 HG.out.2.2.1 HG.out.2.2.2.1) k2
          replace k3 := pw_cell_below (Apart.below (show Apart xb fb bb rb w _ from (ap_r HB)) HW0.out HG.out.2.2.2.2 HG.out.1 HG.out.2.1 HG.out.2.2.1 HG.out.2.2.2.1) k3
          replace k4 := pw_cell_below (Apart.below (show Apart xb fb bb rb w _ from (ap_r HB)) HW0.out HG.out.2.2.2.2 HG.out.1 HG.out.2.1 HG.out.2.2.1 HG.out.2.2.2.1) k4
          replace k5 := pw_cell_below (Apart.below (show Apart xb fb bb rb w _ from (ap_r HB)) HW0.out HG.out.2.2.2.2 HG.out.1 HG.out.2.1 HG.out.2.2.1 HG.out.2.2.2.1) k5
          cases had
          have hm3 := HM.out.2.1
          cases hs : hasB sh i
          · have HSH := Aside0.mk hs
            go_wp2_with (first | ((with_reducible refine gate_dst (N := 10) rfl ?_); go_must (refine box_ev (N := 10) (cs := #[.int .i64 0, .int .i64 0, .int .i64 0, .int .i64 0, .int .i64 0, .int .i64 0]) (t := 138) (h := ?_); intro q10 hgq10 w6 hbox hb; have GEq10 := ge_newx HB hgq10; have N_xb_q10 := ne_newx HX.out.1 HB hgq10; have N_fb_q10 := ne_newx HX.out.2.1 HB hgq10; have N_bb_q10 := ne_newx HX.out.2.2.1 HB hgq10; have N_rb_q10 := ne_newx HX.out.2.2.2 HB hgq10; have N_p2_q10 := ne_new Bp2 hgq10; have N_s_q10 := ne_new Bs hgq10; have N_om_q10 := ne_new Bom hgq10; have N_mm_q10 := ne_new Bmm hgq10; have N_p5_q10 := ne_new Bp5 hgq10; replace HB := ap_b hb HB; replace Bxb := blk_b hb Bxb; (try clear cxb_0 cxb_1 cxb_2 cxb_3 cxb_4 cxb_5 cxb_6 cxb_7 cxb_8 cxb_9); obtain ⟨cxb_0, cxb_1, cxb_2, cxb_3, cxb_4, cxb_5, cxb_6, cxb_7, cxb_8, cxb_9⟩ := cells10 Bxb.out; replace Bfb := row_b hb Bfb; replace Bbb := row_b hb Bbb; replace Brb := row_b hb Brb; replace Bp2 := blk_b hb Bp2; (try clear cp2_0); have cp2_0 := cells1 Bp2.out; replace Bs := blk_b hb Bs; (try clear cs_0 cs_1 cs_2 cs_3); obtain ⟨cs_0, cs_1, cs_2, cs_3⟩ := cells4 Bs.out; replace Bom := map_b hb Bom; replace Bmm := map_b hb Bmm; replace Bp5 := blk_b hb Bp5; (try clear cp5_0); have cp5_0 := cells1 Bp5.out; have Bq10 := Aside0.mk hbox; clear hbox; obtain ⟨cq10_0, cq10_1, cq10_2, cq10_3, cq10_4, cq10_5⟩ := cells6 Bq10.out; (try clear hb); clear hgq10)) | ((with_reducible refine gate_store (t := 138) (p := 10) rfl ?_); go_must (refine row_ev q10 #[.int .i64 (rd_T138 l1 i).f0, .int .i64 (rd_T138 l1 i).f1, .int .i64 (rd_T138 l1 i).f2.f0, .int .i64 (rd_T138 l1 i).f2.f1, .int .i64 (rd_T138 l1 i).f3.f0, .int .i64 (rd_T138 l1 i).f3.f1] Bq10.out (h := ?_); intro w7 hbox ho_; replace HB := ap_o ho_ HB (Or.inr (Or.inr (Or.inr (Or.inr GEq10.out)))); replace Bxb := blk_o ho_ Bxb (by first | exact N_xb_q10.out | exact N_q10_xb.out.symm); (try clear cxb_0 cxb_1 cxb_2 cxb_3 cxb_4 cxb_5 cxb_6 cxb_7 cxb_8 cxb_9); obtain ⟨cxb_0, cxb_1, cxb_2, cxb_3, cxb_4, cxb_5, cxb_6, cxb_7, cxb_8, cxb_9⟩ := cells10 Bxb.out; replace Bfb := row_o ho_ Bfb (by first | exact N_fb_q10.out | exact N_q10_fb.out.symm); replace Bbb := row_o ho_ Bbb (by first | exact N_bb_q10.out | exact N_q10_bb.out.symm); replace Brb := row_o ho_ Brb (by first | exact N_rb_q10.out | exact N_q10_rb.out.symm); replace Bp2 := blk_o ho_ Bp2 (by first | exact N_p2_q10.out | exact N_q10_p2.out.symm); (try clear cp2_0); have cp2_0 := cells1 Bp2.out; replace Bs := blk_o ho_ Bs (by first | exact N_s_q10.out | exact N_q10_s.out.symm); (try clear cs_0 cs_1 cs_2 cs_3); obtain ⟨cs_0, cs_1, cs_2, cs_3⟩ := cells4 Bs.out; replace Bom := map_o ho_ Bom (by first | exact N_om_q10.out | exact N_q10_om.out.symm); replace Bmm := map_o ho_ Bmm (by first | exact N_mm_q10.out | exact N_q10_mm.out.symm); replace Bp5 := blk_o ho_ Bp5 (by first | exact N_p5_q10.out | exact N_q10_p5.out.symm); (try clear cp5_0); have cp5_0 := cells1 Bp5.out; replace Bq10 := Aside0.mk hbox; clear hbox ho_; (try clear cq10_0 cq10_1 cq10_2 cq10_3 cq10_4 cq10_5); obtain ⟨cq10_0, cq10_1, cq10_2, cq10_3, cq10_4, cq10_5⟩ := cells6 Bq10.out; )) | ((with_reducible refine gate_callee (f := 127) rfl ?_); refine goes_c (some 68) Try.func127 (contains_any sh i As cs _ (Kd.C_below HRS.out (Apart.below (show Apart xb fb bb rb w _ from (ap_r HB)) HW0.out HG.out.2.2.2.2 HG.out.1 HG.out.2.1 HG.out.2.2.1 HG.out.2.2.2.1)) HCS.out (by have := HLS.out; omega)) (h := ?_); rintro e w8 ⟨rfl, hd_⟩; refine ⟨_, rfl, ?_⟩; have hb := Drawn0.below hd_; clear hd_; replace HB := ap_b hb HB; replace Bxb := blk_b hb Bxb; (try clear cxb_0 cxb_1 cxb_2 cxb_3 cxb_4 cxb_5 cxb_6 cxb_7 cxb_8 cxb_9); obtain ⟨cxb_0, cxb_1, cxb_2, cxb_3, cxb_4, cxb_5, cxb_6, cxb_7, cxb_8, cxb_9⟩ := cells10 Bxb.out; replace Bfb := row_b hb Bfb; replace Bbb := row_b hb Bbb; replace Brb := row_b hb Brb; replace Bp2 := blk_b hb Bp2; (try clear cp2_0); have cp2_0 := cells1 Bp2.out; replace Bs := blk_b hb Bs; (try clear cs_0 cs_1 cs_2 cs_3); obtain ⟨cs_0, cs_1, cs_2, cs_3⟩ := cells4 Bs.out; replace Bom := map_b hb Bom; replace Bmm := map_b hb Bmm; replace Bp5 := blk_b hb Bp5; (try clear cp5_0); have cp5_0 := cells1 Bp5.out; replace Bq10 := blk_b hb Bq10; (try clear cq10_0 cq10_1 cq10_2 cq10_3 cq10_4 cq10_5); obtain ⟨cq10_0, cq10_1, cq10_2, cq10_3, cq10_4, cq10_5⟩ := cells6 Bq10.out; (try clear hb); ) | ((with_reducible refine gate_value (t := 70) rfl ?_); go_must (refine goesV_ (some 77) rfl rfl Try.func154 (by kernel_rfl) rfl #[.int .i64 ((rd_T138 l1 i).f1), .int .i64 ((rd_T138 l1 i).f0), .agg #[.int .i64 ((rd_T138 l1 i).f2).f0, .int .i64 ((rd_T138 l1 i).f2).f1], .pointer (some ⟨p2, 0, none⟩), .pointer (some ⟨p5, 0, none⟩)] rfl rfl (by (try simp only [List.map_toArray, List.map_cons, List.map_nil]); first | done | rfl | (simp; done)) ?_; (with_reducible refine (come_any (F := F) ((rd_T138 l1 i).f1) ((rd_T138 l1 i).f0) (rd_T138 l1 i).f2 Bxb.out Bfb.out Bmm.out Bp2.out Bp5.out hel.1 hel.2.1 N_xb_mm.out N_fb_mm.out (Ne.symm N_p2_mm.out) N_mm_p5.out).mono ?_); rintro e w9 ⟨⟨_, rfl⟩, ho_, hbox⟩; refine ⟨_, rfl, ?_⟩; replace HB := Aside0.mk (Apart.grown (ap_r HB) ho_ (Or.inr (Or.inr (Or.inr (Or.inr GEmm.out))))); replace Bxb := blk_g ho_ Bxb (by first | exact N_xb_mm.out | exact N_mm_xb.out.symm); (try clear cxb_0 cxb_1 cxb_2 cxb_3 cxb_4 cxb_5 cxb_6 cxb_7 cxb_8 cxb_9); obtain ⟨cxb_0, cxb_1, cxb_2, cxb_3, cxb_4, cxb_5, cxb_6, cxb_7, cxb_8, cxb_9⟩ := cells10 Bxb.out; replace Bfb := row_g ho_ Bfb (by first | exact N_fb_mm.out | exact N_mm_fb.out.symm); replace Bbb := row_g ho_ Bbb (by first | exact N_bb_mm.out | exact N_mm_bb.out.symm); replace Brb := row_g ho_ Brb (by first | exact N_rb_mm.out | exact N_mm_rb.out.symm); replace Bp2 := blk_g ho_ Bp2 (by first | exact N_p2_mm.out | exact N_mm_p2.out.symm); (try clear cp2_0); have cp2_0 := cells1 Bp2.out; replace Bs := blk_g ho_ Bs (by first | exact N_s_mm.out | exact N_mm_s.out.symm); (try clear cs_0 cs_1 cs_2 cs_3); obtain ⟨cs_0, cs_1, cs_2, cs_3⟩ := cells4 Bs.out; replace Bom := map_g ho_ Bom (by first | exact N_om_mm.out | exact N_mm_om.out.symm); replace Bp5 := blk_g ho_ Bp5 (by first | exact N_p5_mm.out | exact N_mm_p5.out.symm); (try clear cp5_0); have cp5_0 := cells1 Bp5.out; replace Bq10 := blk_g ho_ Bq10 (by first | exact N_q10_mm.out | exact N_mm_q10.out.symm); (try clear cq10_0 cq10_1 cq10_2 cq10_3 cq10_4 cq10_5); obtain ⟨cq10_0, cq10_1, cq10_2, cq10_3, cq10_4, cq10_5⟩ := cells6 Bq10.out; replace Bmm := Aside0.mk hbox; clear hbox ho_; )) | ((with_reducible refine gate_value (t := 78) rfl ?_); go_must (refine goesV_ (some 85) rfl rfl Try.func154 (by kernel_rfl) rfl #[.int .i64 ((rd_T138 l1 i).f0), .int .i64 ((rd_T138 l1 i).f1), .agg #[.int .i64 ((rd_T138 l1 i).f3).f0, .int .i64 ((rd_T138 l1 i).f3).f1], .pointer (some ⟨p2, 0, none⟩), .pointer (some ⟨p5, 0, none⟩)] rfl rfl (by (try simp only [List.map_toArray, List.map_cons, List.map_nil]); first | done | rfl | (simp; done)) ?_; (with_reducible refine (come_any (F := F) ((rd_T138 l1 i).f0) ((rd_T138 l1 i).f1) (rd_T138 l1 i).f3 Bxb.out Bfb.out Bmm.out Bp2.out Bp5.out hel.2.2.1 hel.2.2.2 N_xb_mm.out N_fb_mm.out (Ne.symm N_p2_mm.out) N_mm_p5.out).mono ?_); rintro e w10 ⟨⟨_, rfl⟩, ho_, hbox⟩; refine ⟨_, rfl, ?_⟩; replace HB := Aside0.mk (Apart.grown (ap_r HB) ho_ (Or.inr (Or.inr (Or.inr (Or.inr GEmm.out))))); replace Bxb := blk_g ho_ Bxb (by first | exact N_xb_mm.out | exact N_mm_xb.out.symm); (try clear cxb_0 cxb_1 cxb_2 cxb_3 cxb_4 cxb_5 cxb_6 cxb_7 cxb_8 cxb_9); obtain ⟨cxb_0, cxb_1, cxb_2, cxb_3, cxb_4, cxb_5, cxb_6, cxb_7, cxb_8, cxb_9⟩ := cells10 Bxb.out; replace Bfb := row_g ho_ Bfb (by first | exact N_fb_mm.out | exact N_mm_fb.out.symm); replace Bbb := row_g ho_ Bbb (by first | exact N_bb_mm.out | exact N_mm_bb.out.symm); replace Brb := row_g ho_ Brb (by first | exact N_rb_mm.out | exact N_mm_rb.out.symm); replace Bp2 := blk_g ho_ Bp2 (by first | exact N_p2_mm.out | exact N_mm_p2.out.symm); (try clear cp2_0); have cp2_0 := cells1 Bp2.out; replace Bs := blk_g ho_ Bs (by first | exact N_s_mm.out | exact N_mm_s.out.symm); (try clear cs_0 cs_1 cs_2 cs_3); obtain ⟨cs_0, cs_1, cs_2, cs_3⟩ := cells4 Bs.out; replace Bom := map_g ho_ Bom (by first | exact N_om_mm.out | exact N_mm_om.out.symm); replace Bp5 := blk_g ho_ Bp5 (by first | exact N_p5_mm.out | exact N_mm_p5.out.symm); (try clear cp5_0); have cp5_0 := cells1 Bp5.out; replace Bq10 := blk_g ho_ Bq10 (by first | exact N_q10_mm.out | exact N_mm_q10.out.symm); (try clear cq10_0 cq10_1 cq10_2 cq10_3 cq10_4 cq10_5); obtain ⟨cq10_0, cq10_1, cq10_2, cq10_3, cq10_4, cq10_5⟩ := cells6 Bq10.out; replace Bmm := Aside0.mk hbox; clear hbox ho_; )))
            (try clear cxb_0 cxb_1 cxb_2 cxb_3 cxb_4 cxb_5 cxb_6 cxb_7 cxb_8 cxb_9); (try clear cp2_0); (try clear cs_0 cs_1 cs_2 cs_3); (try clear cp5_0); (try clear cq10_0 cq10_1 cq10_2 cq10_3 cq10_4 cq10_5)
            go_roundg (l1.length - (i + 1).toNat)
            case measure => have := Hn.out; omega
            case rel => exact ⟨i + 1, (comeS F (comeS F M (rd_T138 l1 i).f1 (rd_T138 l1 i).f0 (rd_T138 l1 i).f2) (rd_T138 l1 i).f0 (rd_T138 l1 i).f1 (rd_T138 l1 i).f3), by omega, rfl, by omega, rfl, ⟨by rw [HE.out, HD.out, comesS, HSH.out, if_neg (by simp)]⟩, ⟨(ap_r HB)⟩, ⟨Bxb.out⟩, ⟨(row_r Bfb)⟩, ⟨(row_r Bbb)⟩, ⟨(row_r Brb)⟩, ⟨Bp2.out⟩, ⟨Bs.out⟩, ⟨Bom.out⟩, ⟨Bmm.out⟩, ⟨Bp5.out⟩⟩
          · have HSH := Aside0.mk hs
            go_wp2_with (first | ((with_reducible refine gate_dst (N := 10) rfl ?_); go_must (refine box_ev (N := 10) (cs := #[.int .i64 0, .int .i64 0, .int .i64 0, .int .i64 0, .int .i64 0, .int .i64 0]) (t := 138) (h := ?_); intro q10 hgq10 w6 hbox hb; have GEq10 := ge_newx HB hgq10; have N_xb_q10 := ne_newx HX.out.1 HB hgq10; have N_fb_q10 := ne_newx HX.out.2.1 HB hgq10; have N_bb_q10 := ne_newx HX.out.2.2.1 HB hgq10; have N_rb_q10 := ne_newx HX.out.2.2.2 HB hgq10; have N_p2_q10 := ne_new Bp2 hgq10; have N_s_q10 := ne_new Bs hgq10; have N_om_q10 := ne_new Bom hgq10; have N_mm_q10 := ne_new Bmm hgq10; have N_p5_q10 := ne_new Bp5 hgq10; replace HB := ap_b hb HB; replace Bxb := blk_b hb Bxb; (try clear cxb_0 cxb_1 cxb_2 cxb_3 cxb_4 cxb_5 cxb_6 cxb_7 cxb_8 cxb_9); obtain ⟨cxb_0, cxb_1, cxb_2, cxb_3, cxb_4, cxb_5, cxb_6, cxb_7, cxb_8, cxb_9⟩ := cells10 Bxb.out; replace Bfb := row_b hb Bfb; replace Bbb := row_b hb Bbb; replace Brb := row_b hb Brb; replace Bp2 := blk_b hb Bp2; (try clear cp2_0); have cp2_0 := cells1 Bp2.out; replace Bs := blk_b hb Bs; (try clear cs_0 cs_1 cs_2 cs_3); obtain ⟨cs_0, cs_1, cs_2, cs_3⟩ := cells4 Bs.out; replace Bom := map_b hb Bom; replace Bmm := map_b hb Bmm; replace Bp5 := blk_b hb Bp5; (try clear cp5_0); have cp5_0 := cells1 Bp5.out; have Bq10 := Aside0.mk hbox; clear hbox; obtain ⟨cq10_0, cq10_1, cq10_2, cq10_3, cq10_4, cq10_5⟩ := cells6 Bq10.out; (try clear hb); clear hgq10)) | ((with_reducible refine gate_store (t := 138) (p := 10) rfl ?_); go_must (refine row_ev q10 #[.int .i64 (rd_T138 l1 i).f0, .int .i64 (rd_T138 l1 i).f1, .int .i64 (rd_T138 l1 i).f2.f0, .int .i64 (rd_T138 l1 i).f2.f1, .int .i64 (rd_T138 l1 i).f3.f0, .int .i64 (rd_T138 l1 i).f3.f1] Bq10.out (h := ?_); intro w7 hbox ho_; replace HB := ap_o ho_ HB (Or.inr (Or.inr (Or.inr (Or.inr GEq10.out)))); replace Bxb := blk_o ho_ Bxb (by first | exact N_xb_q10.out | exact N_q10_xb.out.symm); (try clear cxb_0 cxb_1 cxb_2 cxb_3 cxb_4 cxb_5 cxb_6 cxb_7 cxb_8 cxb_9); obtain ⟨cxb_0, cxb_1, cxb_2, cxb_3, cxb_4, cxb_5, cxb_6, cxb_7, cxb_8, cxb_9⟩ := cells10 Bxb.out; replace Bfb := row_o ho_ Bfb (by first | exact N_fb_q10.out | exact N_q10_fb.out.symm); replace Bbb := row_o ho_ Bbb (by first | exact N_bb_q10.out | exact N_q10_bb.out.symm); replace Brb := row_o ho_ Brb (by first | exact N_rb_q10.out | exact N_q10_rb.out.symm); replace Bp2 := blk_o ho_ Bp2 (by first | exact N_p2_q10.out | exact N_q10_p2.out.symm); (try clear cp2_0); have cp2_0 := cells1 Bp2.out; replace Bs := blk_o ho_ Bs (by first | exact N_s_q10.out | exact N_q10_s.out.symm); (try clear cs_0 cs_1 cs_2 cs_3); obtain ⟨cs_0, cs_1, cs_2, cs_3⟩ := cells4 Bs.out; replace Bom := map_o ho_ Bom (by first | exact N_om_q10.out | exact N_q10_om.out.symm); replace Bmm := map_o ho_ Bmm (by first | exact N_mm_q10.out | exact N_q10_mm.out.symm); replace Bp5 := blk_o ho_ Bp5 (by first | exact N_p5_q10.out | exact N_q10_p5.out.symm); (try clear cp5_0); have cp5_0 := cells1 Bp5.out; replace Bq10 := Aside0.mk hbox; clear hbox ho_; (try clear cq10_0 cq10_1 cq10_2 cq10_3 cq10_4 cq10_5); obtain ⟨cq10_0, cq10_1, cq10_2, cq10_3, cq10_4, cq10_5⟩ := cells6 Bq10.out; )) | ((with_reducible refine gate_callee (f := 127) rfl ?_); refine goes_c (some 68) Try.func127 (contains_any sh i As cs _ (Kd.C_below HRS.out (Apart.below (show Apart xb fb bb rb w _ from (ap_r HB)) HW0.out HG.out.2.2.2.2 HG.out.1 HG.out.2.1 HG.out.2.2.1 HG.out.2.2.2.1)) HCS.out (by have := HLS.out; omega)) (h := ?_); rintro e w8 ⟨rfl, hd_⟩; refine ⟨_, rfl, ?_⟩; have hb := Drawn0.below hd_; clear hd_; replace HB := ap_b hb HB; replace Bxb := blk_b hb Bxb; (try clear cxb_0 cxb_1 cxb_2 cxb_3 cxb_4 cxb_5 cxb_6 cxb_7 cxb_8 cxb_9); obtain ⟨cxb_0, cxb_1, cxb_2, cxb_3, cxb_4, cxb_5, cxb_6, cxb_7, cxb_8, cxb_9⟩ := cells10 Bxb.out; replace Bfb := row_b hb Bfb; replace Bbb := row_b hb Bbb; replace Brb := row_b hb Brb; replace Bp2 := blk_b hb Bp2; (try clear cp2_0); have cp2_0 := cells1 Bp2.out; replace Bs := blk_b hb Bs; (try clear cs_0 cs_1 cs_2 cs_3); obtain ⟨cs_0, cs_1, cs_2, cs_3⟩ := cells4 Bs.out; replace Bom := map_b hb Bom; replace Bmm := map_b hb Bmm; replace Bp5 := blk_b hb Bp5; (try clear cp5_0); have cp5_0 := cells1 Bp5.out; replace Bq10 := blk_b hb Bq10; (try clear cq10_0 cq10_1 cq10_2 cq10_3 cq10_4 cq10_5); obtain ⟨cq10_0, cq10_1, cq10_2, cq10_3, cq10_4, cq10_5⟩ := cells6 Bq10.out; (try clear hb); ))
            (try clear cxb_0 cxb_1 cxb_2 cxb_3 cxb_4 cxb_5 cxb_6 cxb_7 cxb_8 cxb_9); (try clear cp2_0); (try clear cs_0 cs_1 cs_2 cs_3); (try clear cp5_0); (try clear cq10_0 cq10_1 cq10_2 cq10_3 cq10_4 cq10_5)
            go_roundg (l1.length - (i + 1).toNat)
            case measure => have := Hn.out; omega
            case rel => exact ⟨i + 1, M, by omega, rfl, by omega, rfl, ⟨by rw [HE.out, HD.out, comesS, HSH.out, if_pos rfl]⟩, ⟨(ap_r HB)⟩, ⟨Bxb.out⟩, ⟨(row_r Bfb)⟩, ⟨(row_r Bbb)⟩, ⟨(row_r Brb)⟩, ⟨Bp2.out⟩, ⟨Bs.out⟩, ⟨Bom.out⟩, ⟨Bmm.out⟩, ⟨Bp5.out⟩⟩
        · have HE1 : Aside0 ((comesS sh F l1 0 (sum0 (leavingL l1 l2 sh) F 0 [])) = M) := ⟨by rw [HE.out, List.drop_eq_nil_of_le (by omega)]; rfl⟩
          have nBmm : Aside0 (IsMap .i64 rangeV wr mm ((comesS sh F l1 0 (sum0 (leavingL l1 l2 sh) F 0 [])))) := ⟨by rw [HE1.out]; exact Bmm.out⟩
          clear Bmm HE1 HE Hn
          have Bmm := nBmm
          clear nBmm
          go_wp2
          clear hi hi0 hi'
          (try clear cxb_0 cxb_1 cxb_2 cxb_3 cxb_4 cxb_5 cxb_6 cxb_7 cxb_8 cxb_9); (try clear cp2_0); (try clear cs_0 cs_1 cs_2 cs_3); (try clear cp5_0)
          go_loopg [93] (l0.length) (fun k v93 w' => ∃ (i : Int) (F' : List S32), 0 ≤ i ∧ k = l0.length - i.toNat ∧ i ≤ l0.length ∧ v93 = .int .i64 i ∧ Aside0 (divS (comesS sh F l1 0 (sum0 (leavingL l1 l2 sh) F 0 [])) l0.length 0 F = divS (comesS sh F l1 0 (sum0 (leavingL l1 l2 sh) F 0 [])) (l0.length - i.toNat) i F') ∧ Aside0 (Apart xb fb bb rb w w') ∧ Aside0 (w'.heap[xb]? = some (.cells #[.slice A0 l0.length c0, .slice A1 l1.length c1, .slice A2 l2.length c2, .slice A3 l3.length c3, .slice A4 l4.length c4, .slice (some ⟨fb, 0, none⟩) l0.length cF, .slice (some ⟨bb, 0, none⟩) l0.length cB, vR, .int .i64 mo, .bool fl] 119 (0, 0))) ∧ Aside0 (Row w' fb (.slice (some ⟨fb, 0, none⟩) l0.length cF) (F')) ∧ Aside0 (Row w' bb (.slice (some ⟨bb, 0, none⟩) l0.length cB) (Bd)) ∧ Aside0 (Row w' rb (vR) (Rm)) ∧ Aside0 (w'.heap[p2]? = some (.cells #[.pointer (some ⟨xb, 0, none⟩)] 114 (0, 0))) ∧ Aside0 (w'.heap[s]? = some (.cells #[.int .i64 tk, .int .i64 he, .slice As sh.length cs, .bool fs] 45 (0, 0))) ∧ Aside0 (IsMap .i64 rangeV w' om (leavingL l1 l2 sh)) ∧ Aside0 (IsMap .i64 rangeV w' mm ((comesS sh F l1 0 (sum0 (leavingL l1 l2 sh) F 0 [])))) ∧ Aside0 (w'.heap[p5]? = some (.cells #[.map (some mm)] 159 (0, 0))))
          case atStart => exact ⟨0, F, by omega, by simp, by omega, rfl, ⟨by simp⟩, ⟨(ap_r HB)⟩, ⟨Bxb.out⟩, ⟨(row_r Bfb)⟩, ⟨(row_r Bbb)⟩, ⟨(row_r Brb)⟩, ⟨Bp2.out⟩, ⟨Bs.out⟩, ⟨Bom.out⟩, ⟨Bmm.out⟩, ⟨Bp5.out⟩⟩
          case round =>
            clear HB Bxb Bfb Bbb Brb Bp2 Bs Bom Bmm Bp5
            obtain ⟨i, F', hi0, hn, hi, rfl, HE, HB, Bxb, Bfb, Bbb, Brb, Bp2, Bs, Bom, Bmm, Bp5⟩ := hrel
            have Hn := Aside0.mk hn
            clear hn
            obtain ⟨cxb_0, cxb_1, cxb_2, cxb_3, cxb_4, cxb_5, cxb_6, cxb_7, cxb_8, cxb_9⟩ := cells10 Bxb.out; have cp2_0 := cells1 Bp2.out; obtain ⟨cs_0, cs_1, cs_2, cs_3⟩ := cells4 Bs.out; have cp5_0 := cells1 Bp5.out
            by_cases hi' : i < l0.length
            · have hm3 := HM.out.1
              go_wp2
              refine region_ri (n := 21) (B := [0, 1, 3, 7, 15, 0, 0, 0, 192, 448, 960, 0, 0, 6144, 14336, 30720, 63488, 129024, 262080, 524287, 1048575]) (fun o_ => match o_ with | 0 => some 96 | 1 => some 97 | 2 => some 98 | 3 => some 99 | 4 => some 100 | 5 => some 101 | 6 => some 102 | 7 => some 103 | 8 => some 104 | 9 => some 105 | 10 => some 106 | 11 => some 107 | 12 => some 108 | 13 => some 109 | 14 => some 110 | 15 => some 111 | 16 => some 112 | 17 => some 113 | 18 => some 114 | 19 => some 115 | 20 => none | _ => none) (fun o_ q_ w' => match o_ with | 0 => q_ = .pointer (some ⟨xb, 0, none⟩) | 1 => q_ = .pointer (some ⟨xb, 0, none⟩) | 2 => q_ = .pointer (some ⟨xb, 5, none⟩) | 3 => q_ = .pointer (some ⟨xb, 5, none⟩) | 4 => q_ = .slice (some ⟨fb, 0, none⟩) l0.length cF | 5 => q_ = .int .i64 i | 6 => q_ = .map (some mm) | 7 => q_ = .int .i64 i | 8 => q_ = .agg #[.int .i64 (lk ((comesS sh F l1 0 (sum0 (leavingL l1 l2 sh) F 0 []))) i).f0, .int .i64 (lk ((comesS sh F l1 0 (sum0 (leavingL l1 l2 sh) F 0 []))) i).f1] | 9 => q_ = .int .i64 (lk ((comesS sh F l1 0 (sum0 (leavingL l1 l2 sh) F 0 []))) i).f0 | 10 => q_ = .int .i64 (wrap64 (Int.tdiv (lk ((comesS sh F l1 0 (sum0 (leavingL l1 l2 sh) F 0 []))) i).f0 1000000)) | 11 => q_ = .map (some mm) | 12 => q_ = .int .i64 i | 13 => q_ = .agg #[.int .i64 (lk ((comesS sh F l1 0 (sum0 (leavingL l1 l2 sh) F 0 []))) i).f0, .int .i64 (lk ((comesS sh F l1 0 (sum0 (leavingL l1 l2 sh) F 0 []))) i).f1] | 14 => q_ = .int .i64 (lk ((comesS sh F l1 0 (sum0 (leavingL l1 l2 sh) F 0 []))) i).f1 | 15 => q_ = .int .i64 (wrap64 ((lk ((comesS sh F l1 0 (sum0 (leavingL l1 l2 sh) F 0 []))) i).f1 + 1000000)) | 16 => q_ = .int .i64 (wrap64 ((wrap64 ((lk ((comesS sh F l1 0 (sum0 (leavingL l1 l2 sh) F 0 []))) i).f1 + 1000000)) - 1)) | 17 => q_ = .int .i64 (wrap64 (Int.tdiv (wrap64 ((wrap64 ((lk ((comesS sh F l1 0 (sum0 (leavingL l1 l2 sh) F 0 []))) i).f1 + 1000000)) - 1)) 1000000)) | 18 => q_ = .agg #[.int .i64 (wrap64 (Int.tdiv (lk ((comesS sh F l1 0 (sum0 (leavingL l1 l2 sh) F 0 []))) i).f0 1000000)), .int .i64 (wrap64 (Int.tdiv (wrap64 ((wrap64 ((lk ((comesS sh F l1 0 (sum0 (leavingL l1 l2 sh) F 0 []))) i).f1 + 1000000)) - 1)) 1000000))] | 19 => q_ = .pointer (some ⟨fb, i.toNat * 2, none⟩) | _ => True) (fun b w' => if b 20 = true then (Aside0 (Apart xb fb bb rb w w') ∧ Aside0 (w'.heap[xb]? = some (.cells #[.slice A0 l0.length c0, .slice A1 l1.length c1, .slice A2 l2.length c2, .slice A3 l3.length c3, .slice A4 l4.length c4, .slice (some ⟨fb, 0, none⟩) l0.length cF, .slice (some ⟨bb, 0, none⟩) l0.length cB, vR, .int .i64 mo, .bool fl] 119 (0, 0))) ∧ Aside0 (Row w' fb (.slice (some ⟨fb, 0, none⟩) l0.length cF) (((F').set i.toNat ⟨(wrap64 (Int.tdiv (lk ((comesS sh F l1 0 (sum0 (leavingL l1 l2 sh) F 0 []))) i).f0 1000000)), (wrap64 (Int.tdiv (wrap64 ((wrap64 ((lk ((comesS sh F l1 0 (sum0 (leavingL l1 l2 sh) F 0 []))) i).f1 + 1000000)) - 1)) 1000000))⟩))) ∧ Aside0 (Row w' bb (.slice (some ⟨bb, 0, none⟩) l0.length cB) (Bd)) ∧ Aside0 (Row w' rb (vR) (Rm)) ∧ Aside0 (w'.heap[p2]? = some (.cells #[.pointer (some ⟨xb, 0, none⟩)] 114 (0, 0))) ∧ Aside0 (w'.heap[s]? = some (.cells #[.int .i64 tk, .int .i64 he, .slice As sh.length cs, .bool fs] 45 (0, 0))) ∧ Aside0 (IsMap .i64 rangeV w' om (leavingL l1 l2 sh)) ∧ Aside0 (IsMap .i64 rangeV w' mm ((comesS sh F l1 0 (sum0 (leavingL l1 l2 sh) F 0 [])))) ∧ Aside0 (w'.heap[p5]? = some (.cells #[.map (some mm)] 159 (0, 0)))) else (Aside0 (Apart xb fb bb rb w w') ∧ Aside0 (w'.heap[xb]? = some (.cells #[.slice A0 l0.length c0, .slice A1 l1.length c1, .slice A2 l2.length c2, .slice A3 l3.length c3, .slice A4 l4.length c4, .slice (some ⟨fb, 0, none⟩) l0.length cF, .slice (some ⟨bb, 0, none⟩) l0.length cB, vR, .int .i64 mo, .bool fl] 119 (0, 0))) ∧ Aside0 (Row w' fb (.slice (some ⟨fb, 0, none⟩) l0.length cF) (F')) ∧ Aside0 (Row w' bb (.slice (some ⟨bb, 0, none⟩) l0.length cB) (Bd)) ∧ Aside0 (Row w' rb (vR) (Rm)) ∧ Aside0 (w'.heap[p2]? = some (.cells #[.pointer (some ⟨xb, 0, none⟩)] 114 (0, 0))) ∧ Aside0 (w'.heap[s]? = some (.cells #[.int .i64 tk, .int .i64 he, .slice As sh.length cs, .bool fs] 45 (0, 0))) ∧ Aside0 (IsMap .i64 rangeV w' om (leavingL l1 l2 sh)) ∧ Aside0 (IsMap .i64 rangeV w' mm ((comesS sh F l1 0 (sum0 (leavingL l1 l2 sh) F 0 [])))) ∧ Aside0 (w'.heap[p5]? = some (.cells #[.map (some mm)] 159 (0, 0))))) rfl rfl (by kernel_rfl) (by kernel_rfl) (by kernel_rfl) (by show (if false = true then _ else _); rw [if_neg (by decide)]; exact ⟨ap_b (below_drew (Below.refl _ _)) HB, blk_b (below_drew (Below.refl _ _)) Bxb, row_b (below_drew (Below.refl _ _)) Bfb, row_b (below_drew (Below.refl _ _)) Bbb, row_b (below_drew (Below.refl _ _)) Brb, blk_b (below_drew (Below.refl _ _)) Bp2, blk_b (below_drew (Below.refl _ _)) Bs, map_b (below_drew (Below.refl _ _)) Bom, map_b (below_drew (Below.refl _ _)) Bmm, blk_b (below_drew (Below.refl _ _)) Bp5⟩) ?_ ?_
              · intro o_ hi
                match o_, hi with
                | 0, _ =>
                  intro b a wq hI hbi_ hb_ hoff_
                  have e2 : a.eval (.tmp 2) = .pointer (some ⟨p2, 0, none⟩) := hI.old 2 (by decide) rfl
                  have s2 := sv_ e2
                  have hJ := hI.j
                  obtain ⟨HBq, qxb, qfb, qbb, qrb, qp2, qs, qom, qmm, qp5⟩ := j0_ hJ (hoff_ 20 (by decide))
                  have cp2_0 := cells1 qp2.out; 
                  exact op_keep hI (i := 0) (jk_ hJ (by decide)) (hrun := gs_)
                | 1, _ =>
                  intro b a wq hI hbi_ hb_ hoff_
                  have e96 := hI.new 96 0 (by decide) (hb_ 0 (by decide)) rfl fun _ h => h
                  have s96 := sv_ e96
                  have hJ := hI.j
                  exact op_keep hI (i := 1) (jk_ hJ (by decide)) (hrun := gs_)
                | 2, _ =>
                  intro b a wq hI hbi_ hb_ hoff_
                  have e97 := hI.new 97 1 (by decide) (hb_ 1 (by decide)) rfl fun _ h => h
                  have s97 := sv_ e97
                  have hJ := hI.j
                  exact op_keep hI (i := 2) (jk_ hJ (by decide)) (hrun := gs_)
                | 3, _ =>
                  intro b a wq hI hbi_ hb_ hoff_
                  have e98 := hI.new 98 2 (by decide) (hb_ 2 (by decide)) rfl fun _ h => h
                  have s98 := sv_ e98
                  have hJ := hI.j
                  exact op_keep hI (i := 3) (jk_ hJ (by decide)) (hrun := gs_)
                | 4, _ =>
                  intro b a wq hI hbi_ hb_ hoff_
                  have e99 := hI.new 99 3 (by decide) (hb_ 3 (by decide)) rfl fun _ h => h
                  have s99 := sv_ e99
                  have hJ := hI.j
                  obtain ⟨HBq, qxb, qfb, qbb, qrb, qp2, qs, qom, qmm, qp5⟩ := j0_ hJ (hoff_ 20 (by decide))
                  obtain ⟨cxb_0, cxb_1, cxb_2, cxb_3, cxb_4, cxb_5, cxb_6, cxb_7, cxb_8, cxb_9⟩ := cells10 qxb.out; 
                  exact op_keep hI (i := 4) (jk_ hJ (by decide)) (hrun := gs_)
                | 5, _ =>
                  intro b a wq hI hbi_ hb_ hoff_
                  have e11 : a.eval (.tmp 11) = .int .i64 i := hI.old 11 (by decide) rfl
                  have s11 := sv_ e11
                  have hJ := hI.j
                  exact op_keep hI (i := 5) (jk_ hJ (by decide)) (hrun := gs_)
                | 6, _ =>
                  intro b a wq hI hbi_ hb_ hoff_
                  have e5 : a.eval (.tmp 5) = .pointer (some ⟨p5, 0, none⟩) := hI.old 5 (by decide) rfl
                  have s5 := sv_ e5
                  have hJ := hI.j
                  obtain ⟨HBq, qxb, qfb, qbb, qrb, qp2, qs, qom, qmm, qp5⟩ := j0_ hJ (hoff_ 20 (by decide))
                  have cp5_0 := cells1 qp5.out; 
                  exact op_keep hI (i := 6) (jk_ hJ (by decide)) (hrun := gs_)
                | 7, _ =>
                  intro b a wq hI hbi_ hb_ hoff_
                  have e11 : a.eval (.tmp 11) = .int .i64 i := hI.old 11 (by decide) rfl
                  have s11 := sv_ e11
                  have hJ := hI.j
                  exact op_keep hI (i := 7) (jk_ hJ (by decide)) (hrun := gs_)
                | 8, _ =>
                  intro b a wq hI hbi_ hb_ hoff_
                  have e102 := hI.new 102 6 (by decide) (hb_ 6 (by decide)) rfl fun _ h => h
                  have s102 := sv_ e102
                  have e103 := hI.new 103 7 (by decide) (hb_ 7 (by decide)) rfl fun _ h => h
                  have s103 := sv_ e103
                  have hJ := hI.j
                  obtain ⟨HBq, qxb, qfb, qbb, qrb, qp2, qs, qom, qmm, qp5⟩ := j0_ hJ (hoff_ 20 (by decide))
                  obtain ⟨cxb_0, cxb_1, cxb_2, cxb_3, cxb_4, cxb_5, cxb_6, cxb_7, cxb_8, cxb_9⟩ := cells10 qxb.out; 
                  have cp2_0 := cells1 qp2.out; 
                  obtain ⟨cs_0, cs_1, cs_2, cs_3⟩ := cells4 qs.out; 
                  have cp5_0 := cells1 qp5.out; 
                  refine ⟨_, rfl, rfl, fun K hK => ?_⟩
                  have hl2 := lk_run qmm.out i
                  refine value_ (N := some 104) rfl rfl (v := .agg #[.int .i64 (lk ((comesS sh F l1 0 (sum0 (leavingL l1 l2 sh) F 0 []))) i).f0, .int .i64 (lk ((comesS sh F l1 0 (sum0 (leavingL l1 l2 sh) F 0 []))) i).f1]) (w1 := wq) (by unfold execOp; simp [e102, e103, hl2]) (hK _ _ (jk_ hJ (by decide)) (fun _ _ h => h) rfl)
                | 9, _ =>
                  intro b a wq hI hbi_ hb_ hoff_
                  have e104 := hI.new 104 8 (by decide) (hb_ 8 (by decide)) rfl fun _ h => h
                  have s104 := sv_ e104
                  have hJ := hI.j
                  exact op_keep hI (i := 9) (jk_ hJ (by decide)) (hrun := gs_)
                | 10, _ =>
                  intro b a wq hI hbi_ hb_ hoff_
                  have e105 := hI.new 105 9 (by decide) (hb_ 9 (by decide)) rfl fun _ h => h
                  have s105 := sv_ e105
                  have hJ := hI.j
                  exact op_keep hI (i := 10) (jk_ hJ (by decide)) (hrun := gs_)
                | 11, _ =>
                  intro b a wq hI hbi_ hb_ hoff_
                  have e5 : a.eval (.tmp 5) = .pointer (some ⟨p5, 0, none⟩) := hI.old 5 (by decide) rfl
                  have s5 := sv_ e5
                  have hJ := hI.j
                  obtain ⟨HBq, qxb, qfb, qbb, qrb, qp2, qs, qom, qmm, qp5⟩ := j0_ hJ (hoff_ 20 (by decide))
                  have cp5_0 := cells1 qp5.out; 
                  exact op_keep hI (i := 11) (jk_ hJ (by decide)) (hrun := gs_)
                | 12, _ =>
                  intro b a wq hI hbi_ hb_ hoff_
                  have e11 : a.eval (.tmp 11) = .int .i64 i := hI.old 11 (by decide) rfl
                  have s11 := sv_ e11
                  have hJ := hI.j
                  exact op_keep hI (i := 12) (jk_ hJ (by decide)) (hrun := gs_)
                | 13, _ =>
                  intro b a wq hI hbi_ hb_ hoff_
                  have e107 := hI.new 107 11 (by decide) (hb_ 11 (by decide)) rfl fun _ h => h
                  have s107 := sv_ e107
                  have e108 := hI.new 108 12 (by decide) (hb_ 12 (by decide)) rfl fun _ h => h
                  have s108 := sv_ e108
                  have hJ := hI.j
                  obtain ⟨HBq, qxb, qfb, qbb, qrb, qp2, qs, qom, qmm, qp5⟩ := j0_ hJ (hoff_ 20 (by decide))
                  obtain ⟨cxb_0, cxb_1, cxb_2, cxb_3, cxb_4, cxb_5, cxb_6, cxb_7, cxb_8, cxb_9⟩ := cells10 qxb.out; 
                  have cp2_0 := cells1 qp2.out; 
                  obtain ⟨cs_0, cs_1, cs_2, cs_3⟩ := cells4 qs.out; 
                  have cp5_0 := cells1 qp5.out; 
                  refine ⟨_, rfl, rfl, fun K hK => ?_⟩
                  have hl2 := lk_run qmm.out i
                  refine value_ (N := some 109) rfl rfl (v := .agg #[.int .i64 (lk ((comesS sh F l1 0 (sum0 (leavingL l1 l2 sh) F 0 []))) i).f0, .int .i64 (lk ((comesS sh F l1 0 (sum0 (leavingL l1 l2 sh) F 0 []))) i).f1]) (w1 := wq) (by unfold execOp; simp [e107, e108, hl2]) (hK _ _ (jk_ hJ (by decide)) (fun _ _ h => h) rfl)
                | 14, _ =>
                  intro b a wq hI hbi_ hb_ hoff_
                  have e109 := hI.new 109 13 (by decide) (hb_ 13 (by decide)) rfl fun _ h => h
                  have s109 := sv_ e109
                  have hJ := hI.j
                  exact op_keep hI (i := 14) (jk_ hJ (by decide)) (hrun := gs_)
                | 15, _ =>
                  intro b a wq hI hbi_ hb_ hoff_
                  have e110 := hI.new 110 14 (by decide) (hb_ 14 (by decide)) rfl fun _ h => h
                  have s110 := sv_ e110
                  have hJ := hI.j
                  exact op_keep hI (i := 15) (jk_ hJ (by decide)) (hrun := gs_)
                | 16, _ =>
                  intro b a wq hI hbi_ hb_ hoff_
                  have e111 := hI.new 111 15 (by decide) (hb_ 15 (by decide)) rfl fun _ h => h
                  have s111 := sv_ e111
                  have hJ := hI.j
                  exact op_keep hI (i := 16) (jk_ hJ (by decide)) (hrun := gs_)
                | 17, _ =>
                  intro b a wq hI hbi_ hb_ hoff_
                  have e112 := hI.new 112 16 (by decide) (hb_ 16 (by decide)) rfl fun _ h => h
                  have s112 := sv_ e112
                  have hJ := hI.j
                  exact op_keep hI (i := 17) (jk_ hJ (by decide)) (hrun := gs_)
                | 18, _ =>
                  intro b a wq hI hbi_ hb_ hoff_
                  have e106 := hI.new 106 10 (by decide) (hb_ 10 (by decide)) rfl fun _ h => h
                  have s106 := sv_ e106
                  have e113 := hI.new 113 17 (by decide) (hb_ 17 (by decide)) rfl fun _ h => h
                  have s113 := sv_ e113
                  have hJ := hI.j
                  exact op_keep hI (i := 18) (jk_ hJ (by decide)) (hrun := gs_)
                | 19, _ =>
                  intro b a wq hI hbi_ hb_ hoff_
                  have e100 := hI.new 100 4 (by decide) (hb_ 4 (by decide)) rfl fun _ h => h
                  have s100 := sv_ e100
                  have e101 := hI.new 101 5 (by decide) (hb_ 5 (by decide)) rfl fun _ h => h
                  have s101 := sv_ e101
                  have hJ := hI.j
                  obtain ⟨HBq, qxb, qfb, qbb, qrb, qp2, qs, qom, qmm, qp5⟩ := j0_ hJ (hoff_ 20 (by decide))
                  obtain ⟨cxb_0, cxb_1, cxb_2, cxb_3, cxb_4, cxb_5, cxb_6, cxb_7, cxb_8, cxb_9⟩ := cells10 qxb.out; 
                  have cp2_0 := cells1 qp2.out; 
                  obtain ⟨cs_0, cs_1, cs_2, cs_3⟩ := cells4 qs.out; 
                  have cp5_0 := cells1 qp5.out; 
                  exact op_keep hI (i := 19) (jk_ hJ (by decide)) (hrun := gs_)
                | 20, _ =>
                  intro b a wq hI hbi_ hb_ hoff_
                  have e115 := hI.new 115 19 (by decide) (hb_ 19 (by decide)) rfl fun _ h => h
                  have s115 := sv_ e115
                  have e114 := hI.new 114 18 (by decide) (hb_ 18 (by decide)) rfl fun _ h => h
                  have s114 := sv_ e114
                  have hJ := hI.j
                  obtain ⟨HBq, qxb, qfb, qbb, qrb, qp2, qs, qom, qmm, qp5⟩ := j0_ hJ hbi_
                  obtain ⟨cxb_0, cxb_1, cxb_2, cxb_3, cxb_4, cxb_5, cxb_6, cxb_7, cxb_8, cxb_9⟩ := cells10 qxb.out; 
                  have cp2_0 := cells1 qp2.out; 
                  obtain ⟨cs_0, cs_1, cs_2, cs_3⟩ := cells4 qs.out; 
                  have cp5_0 := cells1 qp5.out; 
                  refine ⟨_, rfl, rfl, fun K hK => ?_⟩
                  obtain ⟨w2, hrun2, hrow2, hg2⟩ := Row.store (P := Try.prog) (by kernel_rfl) qfb.out (i) (hi0) (hi') ((wrap64 (Int.tdiv (lk ((comesS sh F l1 0 (sum0 (leavingL l1 l2 sh) F 0 []))) i).f0 1000000))) ((wrap64 (Int.tdiv (wrap64 ((wrap64 ((lk ((comesS sh F l1 0 (sum0 (leavingL l1 l2 sh) F 0 []))) i).f1 + 1000000)) - 1)) 1000000)))
                  refine skip_ rfl rfl (w1 := w2) (by unfold execOp; simp [e115, e114, hrun2]) (hK undef _ (j1_up ⟨ap_g hg2 HBq (Or.inr (Or.inl rfl)), blk_g hg2 qxb (by first | exact N_xb_fb.out | exact N_fb_xb.out.symm), ⟨hrow2⟩, row_g hg2 qbb (by first | exact N_bb_fb.out | exact N_fb_bb.out.symm), row_g hg2 qrb (by first | exact N_rb_fb.out | exact N_fb_rb.out.symm), blk_g hg2 qp2 (by first | exact N_p2_fb.out | exact N_fb_p2.out.symm), blk_g hg2 qs (by first | exact N_s_fb.out | exact N_fb_s.out.symm), map_g hg2 qom (by first | exact N_om_fb.out | exact N_fb_om.out.symm), map_g hg2 qmm (by first | exact N_mm_fb.out | exact N_fb_mm.out.symm), blk_g hg2 qp5 (by first | exact N_p5_fb.out | exact N_fb_p5.out.symm)⟩) (fun _ _ h => h) trivial)
                | o_ + 21, hi => exact absurd hi (by omega)
              intro vs wn b_ hall hJ hT
              replace hJ := j1_ hJ (hall 20 (by decide))
              obtain ⟨HJ0, HT0⟩ : Aside0 _ ∧ Aside0 _ := ⟨⟨hJ⟩, ⟨hT⟩⟩
              clear hall hJ hT
              simp only [fillAll, show List.range 21 = [0, 1, 2, 3, 4, 5, 6, 7, 8, 9, 10, 11, 12, 13, 14, 15, 16, 17, 18, 19, 20] from rfl]
              rw [show vs 0 = _ from HT0.out 0 (by decide) (by decide), show vs 1 = _ from HT0.out 1 (by decide) (by decide), show vs 2 = _ from HT0.out 2 (by decide) (by decide), show vs 3 = _ from HT0.out 3 (by decide) (by decide), show vs 4 = _ from HT0.out 4 (by decide) (by decide), show vs 5 = _ from HT0.out 5 (by decide) (by decide), show vs 6 = _ from HT0.out 6 (by decide) (by decide), show vs 7 = _ from HT0.out 7 (by decide) (by decide), show vs 8 = _ from HT0.out 8 (by decide) (by decide), show vs 9 = _ from HT0.out 9 (by decide) (by decide), show vs 10 = _ from HT0.out 10 (by decide) (by decide), show vs 11 = _ from HT0.out 11 (by decide) (by decide), show vs 12 = _ from HT0.out 12 (by decide) (by decide), show vs 13 = _ from HT0.out 13 (by decide) (by decide), show vs 14 = _ from HT0.out 14 (by decide) (by decide), show vs 15 = _ from HT0.out 15 (by decide) (by decide), show vs 16 = _ from HT0.out 16 (by decide) (by decide), show vs 17 = _ from HT0.out 17 (by decide) (by decide), show vs 18 = _ from HT0.out 18 (by decide) (by decide), show vs 19 = _ from HT0.out 19 (by decide) (by decide)]
              simp only [Act.put, List.setIfInBounds_toArray, List.set_cons_zero, List.set_cons_succ]
              clear HB Bxb Bfb Bbb Brb Bp2 Bs Bom Bmm Bp5
              obtain ⟨HB, Bxb, Bfb, Bbb, Brb, Bp2, Bs, Bom, Bmm, Bp5⟩ := HJ0.out
              clear HJ0 HT0
              (try clear cxb_0 cxb_1 cxb_2 cxb_3 cxb_4 cxb_5 cxb_6 cxb_7 cxb_8 cxb_9); (try clear cp2_0); (try clear cs_0 cs_1 cs_2 cs_3); (try clear cp5_0)
              go_wp2
              go_roundg (l0.length - (i + 1).toNat)
              case measure => have := Hn.out; omega
              case rel => exact ⟨i + 1, _, by omega, rfl, by omega, rfl, ⟨by rw [HE.out, show l0.length - i.toNat = (l0.length - (i + 1).toNat) + 1 by omega, divS]⟩, ⟨(ap_r HB)⟩, ⟨Bxb.out⟩, ⟨(row_r Bfb)⟩, ⟨(row_r Bbb)⟩, ⟨(row_r Brb)⟩, ⟨Bp2.out⟩, ⟨Bs.out⟩, ⟨Bom.out⟩, ⟨Bmm.out⟩, ⟨Bp5.out⟩⟩
            · have HE1 : Aside0 ((divS (comesS sh F l1 0 (sum0 (leavingL l1 l2 sh) F 0 [])) l0.length 0 F) = F') := ⟨by rw [HE.out, show l0.length - i.toNat = 0 by omega]; rfl⟩
              have nBfb : Aside0 (Row wr fb (.slice (some ⟨fb, 0, none⟩) l0.length cF) ((divS (comesS sh F l1 0 (sum0 (leavingL l1 l2 sh) F 0 [])) l0.length 0 F))) := ⟨by rw [HE1.out]; exact Bfb.out⟩
              clear Bfb HE1 HE Hn
              have Bfb := nBfb
              clear nBfb
              go_wp2
              clear hi hi0 hi'
              (try clear cxb_0 cxb_1 cxb_2 cxb_3 cxb_4 cxb_5 cxb_6 cxb_7 cxb_8 cxb_9); (try clear cp2_0); (try clear cs_0 cs_1 cs_2 cs_3); (try clear cp5_0)
              clear Bom Bmm Bp5
              go_loopg [123] (l3.length) (fun k v123 w' => ∃ (i : Int) (F' : List S32), 0 ≤ i ∧ k = l3.length - i.toNat ∧ i ≤ l3.length ∧ v123 = .int .i64 i ∧ Aside0 (leakS l3 (divS (comesS sh F l1 0 (sum0 (leavingL l1 l2 sh) F 0 [])) l0.length 0 F) = leakS (l3.drop i.toNat) F') ∧ Aside0 (Apart xb fb bb rb w w') ∧ Aside0 (w'.heap[xb]? = some (.cells #[.slice A0 l0.length c0, .slice A1 l1.length c1, .slice A2 l2.length c2, .slice A3 l3.length c3, .slice A4 l4.length c4, .slice (some ⟨fb, 0, none⟩) l0.length cF, .slice (some ⟨bb, 0, none⟩) l0.length cB, vR, .int .i64 mo, .bool fl] 119 (0, 0))) ∧ Aside0 (Row w' fb (.slice (some ⟨fb, 0, none⟩) l0.length cF) (F')) ∧ Aside0 (Row w' bb (.slice (some ⟨bb, 0, none⟩) l0.length cB) (Bd)) ∧ Aside0 (Row w' rb (vR) (Rm)) ∧ Aside0 (w'.heap[p2]? = some (.cells #[.pointer (some ⟨xb, 0, none⟩)] 114 (0, 0))) ∧ Aside0 (w'.heap[s]? = some (.cells #[.int .i64 tk, .int .i64 he, .slice As sh.length cs, .bool fs] 45 (0, 0))))
              case atStart => exact ⟨0, (divS (comesS sh F l1 0 (sum0 (leavingL l1 l2 sh) F 0 [])) l0.length 0 F), by omega, by simp, by omega, rfl, ⟨by simp⟩, ⟨(ap_r HB)⟩, ⟨Bxb.out⟩, ⟨(row_r Bfb)⟩, ⟨(row_r Bbb)⟩, ⟨(row_r Brb)⟩, ⟨Bp2.out⟩, ⟨Bs.out⟩⟩
              case round =>
                clear HB Bxb Bfb Bbb Brb Bp2 Bs
                obtain ⟨i, F', hi0, hn, hi, rfl, HE, HB, Bxb, Bfb, Bbb, Brb, Bp2, Bs⟩ := hrel
                have Hn := Aside0.mk hn
                clear hn
                obtain ⟨cxb_0, cxb_1, cxb_2, cxb_3, cxb_4, cxb_5, cxb_6, cxb_7, cxb_8, cxb_9⟩ := cells10 Bxb.out; have cp2_0 := cells1 Bp2.out; obtain ⟨cs_0, cs_1, cs_2, cs_3⟩ := cells4 Bs.out
                by_cases hi' : i < l3.length
                · have HD : Aside0 (l3.drop i.toNat = (rd_T140 l3 i) :: l3.drop (i + 1).toNat) := ⟨by
                    rw [show (i + 1).toNat = i.toNat + 1 by omega, List.drop_eq_getElem_cons (by omega)]; unfold rd_T140; simp [List.getD_eq_getElem?_getD, List.getElem?_eq_getElem (show i.toNat < l3.length by omega)]⟩
                  have hel := HLK.out (rd_T140 l3 i) (List.mem_of_mem_drop (HD.out ▸ List.mem_cons_self))
                  obtain ⟨ad, had, k0, k1, k2⟩ := at_T140 HR3.out i hi0 (hi')
                  replace k0 := pw_cell_below (Apart.below (show Apart xb fb bb rb w _ from (ap_r HB)) HW0.out HG.out.2.2.2.2 HG.out.1 HG.out.2.1 HG.out.2.2.1 HG.out.2.2.2.1) k0
                  replace k1 := pw_cell_below (Apart.below (show Apart xb fb bb rb w _ from (ap_r HB)) HW0.out HG.out.2.2.2.2 HG.out.1 HG.out.2.1 HG.out.2.2.1 HG.out.2.2.2.1) k1
                  replace k2 := pw_cell_below (Apart.below (show Apart xb fb bb rb w _ from (ap_r HB)) HW0.out HG.out.2.2.2.2 HG.out.1 HG.out.2.1 HG.out.2.2.1 HG.out.2.2.2.1) k2
                  cases had
                  have hm3 := HM.out.2.2.2.1
                  go_wp2_with (first | ((with_reducible refine gate_dst (N := 13) rfl ?_); go_must (refine box_ev (N := 13) (cs := #[.int .i64 0, .int .i64 0, .int .i64 0]) (t := 140) (h := ?_); intro p13 hgp13 w6 hbox hb; have GEp13 := ge_newx HB hgp13; have N_xb_p13 := ne_newx HX.out.1 HB hgp13; have N_fb_p13 := ne_newx HX.out.2.1 HB hgp13; have N_bb_p13 := ne_newx HX.out.2.2.1 HB hgp13; have N_rb_p13 := ne_newx HX.out.2.2.2 HB hgp13; have N_p2_p13 := ne_new Bp2 hgp13; have N_s_p13 := ne_new Bs hgp13; replace HB := ap_b hb HB; replace Bxb := blk_b hb Bxb; (try clear cxb_0 cxb_1 cxb_2 cxb_3 cxb_4 cxb_5 cxb_6 cxb_7 cxb_8 cxb_9); obtain ⟨cxb_0, cxb_1, cxb_2, cxb_3, cxb_4, cxb_5, cxb_6, cxb_7, cxb_8, cxb_9⟩ := cells10 Bxb.out; replace Bfb := row_b hb Bfb; replace Bbb := row_b hb Bbb; replace Brb := row_b hb Brb; replace Bp2 := blk_b hb Bp2; (try clear cp2_0); have cp2_0 := cells1 Bp2.out; replace Bs := blk_b hb Bs; (try clear cs_0 cs_1 cs_2 cs_3); obtain ⟨cs_0, cs_1, cs_2, cs_3⟩ := cells4 Bs.out; have Bp13 := Aside0.mk hbox; clear hbox; obtain ⟨cp13_0, cp13_1, cp13_2⟩ := cells3 Bp13.out; (try clear hb); clear hgp13)) | ((with_reducible refine gate_store (t := 140) (p := 13) rfl ?_); go_must (refine row_ev p13 #[.int .i64 (rd_T140 l3 i).f0, .int .i64 (rd_T140 l3 i).f1.f0, .int .i64 (rd_T140 l3 i).f1.f1] Bp13.out (h := ?_); intro w7 hbox ho_; replace HB := ap_o ho_ HB (Or.inr (Or.inr (Or.inr (Or.inr GEp13.out)))); replace Bxb := blk_o ho_ Bxb (by first | exact N_xb_p13.out | exact N_p13_xb.out.symm); (try clear cxb_0 cxb_1 cxb_2 cxb_3 cxb_4 cxb_5 cxb_6 cxb_7 cxb_8 cxb_9); obtain ⟨cxb_0, cxb_1, cxb_2, cxb_3, cxb_4, cxb_5, cxb_6, cxb_7, cxb_8, cxb_9⟩ := cells10 Bxb.out; replace Bfb := row_o ho_ Bfb (by first | exact N_fb_p13.out | exact N_p13_fb.out.symm); replace Bbb := row_o ho_ Bbb (by first | exact N_bb_p13.out | exact N_p13_bb.out.symm); replace Brb := row_o ho_ Brb (by first | exact N_rb_p13.out | exact N_p13_rb.out.symm); replace Bp2 := blk_o ho_ Bp2 (by first | exact N_p2_p13.out | exact N_p13_p2.out.symm); (try clear cp2_0); have cp2_0 := cells1 Bp2.out; replace Bs := blk_o ho_ Bs (by first | exact N_s_p13.out | exact N_p13_s.out.symm); (try clear cs_0 cs_1 cs_2 cs_3); obtain ⟨cs_0, cs_1, cs_2, cs_3⟩ := cells4 Bs.out; replace Bp13 := Aside0.mk hbox; clear hbox ho_; (try clear cp13_0 cp13_1 cp13_2); obtain ⟨cp13_0, cp13_1, cp13_2⟩ := cells3 Bp13.out; )))
                  refine region_ri (n := 21) (B := [0, 1, 3, 7, 15, 0, 32, 0, 128, 384, 896, 1920, 0, 4096, 16256, 32640, 0, 65536, 262016, 524287, 1048575]) (fun o_ => match o_ with | 0 => some 127 | 1 => some 128 | 2 => some 129 | 3 => some 130 | 4 => some 131 | 5 => some 132 | 6 => some 133 | 7 => some 134 | 8 => some 135 | 9 => some 136 | 10 => some 137 | 11 => some 138 | 12 => some 139 | 13 => some 140 | 14 => some 141 | 15 => some 142 | 16 => some 143 | 17 => some 144 | 18 => some 145 | 19 => some 146 | 20 => none | _ => none) (fun o_ q_ w' => match o_ with | 0 => q_ = .pointer (some ⟨xb, 0, none⟩) | 1 => q_ = .pointer (some ⟨xb, 0, none⟩) | 2 => q_ = .pointer (some ⟨xb, 5, none⟩) | 3 => q_ = .pointer (some ⟨xb, 5, none⟩) | 4 => q_ = .slice (some ⟨fb, 0, none⟩) l0.length cF | 5 => q_ = .pointer (some ⟨p13, 0, none⟩) | 6 => q_ = .int .i64 (rd_T140 l3 i).f0 | 7 => q_ = .pointer (some ⟨xb, 0, none⟩) | 8 => q_ = .pointer (some ⟨xb, 0, none⟩) | 9 => q_ = .pointer (some ⟨xb, 5, none⟩) | 10 => q_ = .pointer (some ⟨xb, 5, none⟩) | 11 => q_ = .slice (some ⟨fb, 0, none⟩) l0.length cF | 12 => q_ = .pointer (some ⟨p13, 0, none⟩) | 13 => q_ = .int .i64 (rd_T140 l3 i).f0 | 14 => q_ = .pointer (some ⟨fb, ((rd_T140 l3 i).f0).toNat * 2, none⟩) | 15 => q_ = .agg #[.int .i64 (rd_T32 (F') ((rd_T140 l3 i).f0)).f0, .int .i64 (rd_T32 (F') ((rd_T140 l3 i).f0)).f1] | 16 => q_ = .pointer (some ⟨p13, 1, none⟩) | 17 => q_ = .agg #[.int .i64 (rd_T140 l3 i).f1.f0, .int .i64 (rd_T140 l3 i).f1.f1] | 18 => q_ = .agg #[.int .i64 (wrap64 ((rd_T32 (F') ((rd_T140 l3 i).f0)).f0 + (rd_T140 l3 i).f1.f0)), .int .i64 (wrap64 ((rd_T32 (F') ((rd_T140 l3 i).f0)).f1 + (rd_T140 l3 i).f1.f1))] | 19 => q_ = .pointer (some ⟨fb, ((rd_T140 l3 i).f0).toNat * 2, none⟩) | _ => True) (fun b w' => if b 20 = true then (Aside0 (Apart xb fb bb rb w w') ∧ Aside0 (w'.heap[xb]? = some (.cells #[.slice A0 l0.length c0, .slice A1 l1.length c1, .slice A2 l2.length c2, .slice (some ad) l3.length c3, .slice A4 l4.length c4, .slice (some ⟨fb, 0, none⟩) l0.length cF, .slice (some ⟨bb, 0, none⟩) l0.length cB, vR, .int .i64 mo, .bool fl] 119 (0, 0))) ∧ Aside0 (Row w' fb (.slice (some ⟨fb, 0, none⟩) l0.length cF) (((F').set ((rd_T140 l3 i).f0).toNat ⟨(wrap64 ((rd_T32 (F') ((rd_T140 l3 i).f0)).f0 + (rd_T140 l3 i).f1.f0)), (wrap64 ((rd_T32 (F') ((rd_T140 l3 i).f0)).f1 + (rd_T140 l3 i).f1.f1))⟩))) ∧ Aside0 (Row w' bb (.slice (some ⟨bb, 0, none⟩) l0.length cB) (Bd)) ∧ Aside0 (Row w' rb (vR) (Rm)) ∧ Aside0 (w'.heap[p2]? = some (.cells #[.pointer (some ⟨xb, 0, none⟩)] 114 (0, 0))) ∧ Aside0 (w'.heap[s]? = some (.cells #[.int .i64 tk, .int .i64 he, .slice As sh.length cs, .bool fs] 45 (0, 0)))) else (Aside0 (Apart xb fb bb rb w w') ∧ Aside0 (w'.heap[xb]? = some (.cells #[.slice A0 l0.length c0, .slice A1 l1.length c1, .slice A2 l2.length c2, .slice (some ad) l3.length c3, .slice A4 l4.length c4, .slice (some ⟨fb, 0, none⟩) l0.length cF, .slice (some ⟨bb, 0, none⟩) l0.length cB, vR, .int .i64 mo, .bool fl] 119 (0, 0))) ∧ Aside0 (Row w' fb (.slice (some ⟨fb, 0, none⟩) l0.length cF) (F')) ∧ Aside0 (Row w' bb (.slice (some ⟨bb, 0, none⟩) l0.length cB) (Bd)) ∧ Aside0 (Row w' rb (vR) (Rm)) ∧ Aside0 (w'.heap[p2]? = some (.cells #[.pointer (some ⟨xb, 0, none⟩)] 114 (0, 0))) ∧ Aside0 (w'.heap[s]? = some (.cells #[.int .i64 tk, .int .i64 he, .slice As sh.length cs, .bool fs] 45 (0, 0))) ∧ Aside0 (w'.heap[p13]? = some (.cells #[.int .i64 (rd_T140 l3 i).f0, .int .i64 (rd_T140 l3 i).f1.f0, .int .i64 (rd_T140 l3 i).f1.f1] 140 (0, 0))))) rfl rfl (by kernel_rfl) (by kernel_rfl) (by kernel_rfl) (by show (if false = true then _ else _); rw [if_neg (by decide)]; exact ⟨ap_b (below_drew (Below.refl _ _)) HB, blk_b (below_drew (Below.refl _ _)) Bxb, row_b (below_drew (Below.refl _ _)) Bfb, row_b (below_drew (Below.refl _ _)) Bbb, row_b (below_drew (Below.refl _ _)) Brb, blk_b (below_drew (Below.refl _ _)) Bp2, blk_b (below_drew (Below.refl _ _)) Bs, blk_b (below_drew (Below.refl _ _)) Bp13⟩) ?_ ?_
                  · intro o_ hi
                    match o_, hi with
                    | 0, _ =>
                      intro b a wq hI hbi_ hb_ hoff_
                      have e2 : a.eval (.tmp 2) = .pointer (some ⟨p2, 0, none⟩) := hI.old 2 (by decide) rfl
                      have s2 := sv_ e2
                      have hJ := hI.j
                      obtain ⟨HBq, qxb, qfb, qbb, qrb, qp2, qs, qp13⟩ := j0_ hJ (hoff_ 20 (by decide))
                      have cp2_0 := cells1 qp2.out; 
                      exact op_keep hI (i := 0) (jk_ hJ (by decide)) (hrun := gs_)
                    | 1, _ =>
                      intro b a wq hI hbi_ hb_ hoff_
                      have e127 := hI.new 127 0 (by decide) (hb_ 0 (by decide)) rfl fun _ h => h
                      have s127 := sv_ e127
                      have hJ := hI.j
                      exact op_keep hI (i := 1) (jk_ hJ (by decide)) (hrun := gs_)
                    | 2, _ =>
                      intro b a wq hI hbi_ hb_ hoff_
                      have e128 := hI.new 128 1 (by decide) (hb_ 1 (by decide)) rfl fun _ h => h
                      have s128 := sv_ e128
                      have hJ := hI.j
                      exact op_keep hI (i := 2) (jk_ hJ (by decide)) (hrun := gs_)
                    | 3, _ =>
                      intro b a wq hI hbi_ hb_ hoff_
                      have e129 := hI.new 129 2 (by decide) (hb_ 2 (by decide)) rfl fun _ h => h
                      have s129 := sv_ e129
                      have hJ := hI.j
                      exact op_keep hI (i := 3) (jk_ hJ (by decide)) (hrun := gs_)
                    | 4, _ =>
                      intro b a wq hI hbi_ hb_ hoff_
                      have e130 := hI.new 130 3 (by decide) (hb_ 3 (by decide)) rfl fun _ h => h
                      have s130 := sv_ e130
                      have hJ := hI.j
                      obtain ⟨HBq, qxb, qfb, qbb, qrb, qp2, qs, qp13⟩ := j0_ hJ (hoff_ 20 (by decide))
                      obtain ⟨cxb_0, cxb_1, cxb_2, cxb_3, cxb_4, cxb_5, cxb_6, cxb_7, cxb_8, cxb_9⟩ := cells10 qxb.out; 
                      exact op_keep hI (i := 4) (jk_ hJ (by decide)) (hrun := gs_)
                    | 5, _ =>
                      intro b a wq hI hbi_ hb_ hoff_
                      have e13 : a.eval (.tmp 13) = .pointer (some ⟨p13, 0, none⟩) := hI.old 13 (by decide) rfl
                      have s13 := sv_ e13
                      have hJ := hI.j
                      exact op_keep hI (i := 5) (jk_ hJ (by decide)) (hrun := gs_)
                    | 6, _ =>
                      intro b a wq hI hbi_ hb_ hoff_
                      have e132 := hI.new 132 5 (by decide) (hb_ 5 (by decide)) rfl fun _ h => h
                      have s132 := sv_ e132
                      have hJ := hI.j
                      obtain ⟨HBq, qxb, qfb, qbb, qrb, qp2, qs, qp13⟩ := j0_ hJ (hoff_ 20 (by decide))
                      obtain ⟨cp13_0, cp13_1, cp13_2⟩ := cells3 qp13.out; 
                      exact op_keep hI (i := 6) (jk_ hJ (by decide)) (hrun := gs_)
                    | 7, _ =>
                      intro b a wq hI hbi_ hb_ hoff_
                      have e2 : a.eval (.tmp 2) = .pointer (some ⟨p2, 0, none⟩) := hI.old 2 (by decide) rfl
                      have s2 := sv_ e2
                      have hJ := hI.j
                      obtain ⟨HBq, qxb, qfb, qbb, qrb, qp2, qs, qp13⟩ := j0_ hJ (hoff_ 20 (by decide))
                      have cp2_0 := cells1 qp2.out; 
                      exact op_keep hI (i := 7) (jk_ hJ (by decide)) (hrun := gs_)
                    | 8, _ =>
                      intro b a wq hI hbi_ hb_ hoff_
                      have e134 := hI.new 134 7 (by decide) (hb_ 7 (by decide)) rfl fun _ h => h
                      have s134 := sv_ e134
                      have hJ := hI.j
                      exact op_keep hI (i := 8) (jk_ hJ (by decide)) (hrun := gs_)
                    | 9, _ =>
                      intro b a wq hI hbi_ hb_ hoff_
                      have e135 := hI.new 135 8 (by decide) (hb_ 8 (by decide)) rfl fun _ h => h
                      have s135 := sv_ e135
                      have hJ := hI.j
                      exact op_keep hI (i := 9) (jk_ hJ (by decide)) (hrun := gs_)
                    | 10, _ =>
                      intro b a wq hI hbi_ hb_ hoff_
                      have e136 := hI.new 136 9 (by decide) (hb_ 9 (by decide)) rfl fun _ h => h
                      have s136 := sv_ e136
                      have hJ := hI.j
                      exact op_keep hI (i := 10) (jk_ hJ (by decide)) (hrun := gs_)
                    | 11, _ =>
                      intro b a wq hI hbi_ hb_ hoff_
                      have e137 := hI.new 137 10 (by decide) (hb_ 10 (by decide)) rfl fun _ h => h
                      have s137 := sv_ e137
                      have hJ := hI.j
                      obtain ⟨HBq, qxb, qfb, qbb, qrb, qp2, qs, qp13⟩ := j0_ hJ (hoff_ 20 (by decide))
                      obtain ⟨cxb_0, cxb_1, cxb_2, cxb_3, cxb_4, cxb_5, cxb_6, cxb_7, cxb_8, cxb_9⟩ := cells10 qxb.out; 
                      exact op_keep hI (i := 11) (jk_ hJ (by decide)) (hrun := gs_)
                    | 12, _ =>
                      intro b a wq hI hbi_ hb_ hoff_
                      have e13 : a.eval (.tmp 13) = .pointer (some ⟨p13, 0, none⟩) := hI.old 13 (by decide) rfl
                      have s13 := sv_ e13
                      have hJ := hI.j
                      exact op_keep hI (i := 12) (jk_ hJ (by decide)) (hrun := gs_)
                    | 13, _ =>
                      intro b a wq hI hbi_ hb_ hoff_
                      have e139 := hI.new 139 12 (by decide) (hb_ 12 (by decide)) rfl fun _ h => h
                      have s139 := sv_ e139
                      have hJ := hI.j
                      obtain ⟨HBq, qxb, qfb, qbb, qrb, qp2, qs, qp13⟩ := j0_ hJ (hoff_ 20 (by decide))
                      obtain ⟨cp13_0, cp13_1, cp13_2⟩ := cells3 qp13.out; 
                      exact op_keep hI (i := 13) (jk_ hJ (by decide)) (hrun := gs_)
                    | 14, _ =>
                      intro b a wq hI hbi_ hb_ hoff_
                      have e138 := hI.new 138 11 (by decide) (hb_ 11 (by decide)) rfl fun _ h => h
                      have s138 := sv_ e138
                      have e140 := hI.new 140 13 (by decide) (hb_ 13 (by decide)) rfl fun _ h => h
                      have s140 := sv_ e140
                      have hJ := hI.j
                      obtain ⟨HBq, qxb, qfb, qbb, qrb, qp2, qs, qp13⟩ := j0_ hJ (hoff_ 20 (by decide))
                      obtain ⟨cxb_0, cxb_1, cxb_2, cxb_3, cxb_4, cxb_5, cxb_6, cxb_7, cxb_8, cxb_9⟩ := cells10 qxb.out; 
                      obtain ⟨cfb_0, dfb_0⟩ := Row.cells qfb.out ((rd_T140 l3 i).f0) hel.1 hel.2; 
                      have cp2_0 := cells1 qp2.out; 
                      obtain ⟨cs_0, cs_1, cs_2, cs_3⟩ := cells4 qs.out; 
                      obtain ⟨cp13_0, cp13_1, cp13_2⟩ := cells3 qp13.out; 
                      exact op_keep hI (i := 14) (jk_ hJ (by decide)) (hrun := gs_)
                    | 15, _ =>
                      intro b a wq hI hbi_ hb_ hoff_
                      have e141 := hI.new 141 14 (by decide) (hb_ 14 (by decide)) rfl fun _ h => h
                      have s141 := sv_ e141
                      have hJ := hI.j
                      obtain ⟨HBq, qxb, qfb, qbb, qrb, qp2, qs, qp13⟩ := j0_ hJ (hoff_ 20 (by decide))
                      obtain ⟨cfb_0, dfb_0⟩ := Row.cells qfb.out ((rd_T140 l3 i).f0) hel.1 hel.2; 
                      exact op_keep hI (i := 15) (jk_ hJ (by decide)) (hrun := gs_)
                    | 16, _ =>
                      intro b a wq hI hbi_ hb_ hoff_
                      have e13 : a.eval (.tmp 13) = .pointer (some ⟨p13, 0, none⟩) := hI.old 13 (by decide) rfl
                      have s13 := sv_ e13
                      have hJ := hI.j
                      exact op_keep hI (i := 16) (jk_ hJ (by decide)) (hrun := gs_)
                    | 17, _ =>
                      intro b a wq hI hbi_ hb_ hoff_
                      have e143 := hI.new 143 16 (by decide) (hb_ 16 (by decide)) rfl fun _ h => h
                      have s143 := sv_ e143
                      have hJ := hI.j
                      obtain ⟨HBq, qxb, qfb, qbb, qrb, qp2, qs, qp13⟩ := j0_ hJ (hoff_ 20 (by decide))
                      obtain ⟨cp13_0, cp13_1, cp13_2⟩ := cells3 qp13.out; 
                      exact op_keep hI (i := 17) (jk_ hJ (by decide)) (hrun := gs_)
                    | 18, _ =>
                      intro b a wq hI hbi_ hb_ hoff_
                      have e142 := hI.new 142 15 (by decide) (hb_ 15 (by decide)) rfl fun _ h => h
                      have s142 := sv_ e142
                      have e144 := hI.new 144 17 (by decide) (hb_ 17 (by decide)) rfl fun _ h => h
                      have s144 := sv_ e144
                      have hJ := hI.j
                      obtain ⟨HBq, qxb, qfb, qbb, qrb, qp2, qs, qp13⟩ := j0_ hJ (hoff_ 20 (by decide))
                      refine ⟨_, rfl, rfl, fun K hK => ?_⟩
                      refine goes_ Try.func128 (by kernel_rfl) rfl #[.agg #[.int .i64 (rd_T32 (F') ((rd_T140 l3 i).f0)).f0, .int .i64 (rd_T32 (F') ((rd_T140 l3 i).f0)).f1], .agg #[.int .i64 (rd_T140 l3 i).f1.f0, .int .i64 (rd_T140 l3 i).f1.f1]] rfl rfl rfl (by simp [e142, e144]) ?_
                      refine (plus_any ⟨(rd_T32 (F') ((rd_T140 l3 i).f0)).f0, (rd_T32 (F') ((rd_T140 l3 i).f0)).f1⟩ ⟨(rd_T140 l3 i).f1.f0, (rd_T140 l3 i).f1.f1⟩ wq).mono ?_
                      rintro e w2 ⟨rfl, hb2⟩
                      exact ⟨_, rfl, hK _ _ (j0_up (by decide) (hoff_ 20 (by decide)) ⟨ap_b hb2 HBq, blk_b hb2 qxb, row_b hb2 qfb, row_b hb2 qbb, row_b hb2 qrb, blk_b hb2 qp2, blk_b hb2 qs, blk_b hb2 qp13⟩) (fun _ _ h => h) rfl⟩
                    | 19, _ =>
                      intro b a wq hI hbi_ hb_ hoff_
                      have e131 := hI.new 131 4 (by decide) (hb_ 4 (by decide)) rfl fun _ h => h
                      have s131 := sv_ e131
                      have e133 := hI.new 133 6 (by decide) (hb_ 6 (by decide)) rfl fun _ h => h
                      have s133 := sv_ e133
                      have hJ := hI.j
                      obtain ⟨HBq, qxb, qfb, qbb, qrb, qp2, qs, qp13⟩ := j0_ hJ (hoff_ 20 (by decide))
                      obtain ⟨cxb_0, cxb_1, cxb_2, cxb_3, cxb_4, cxb_5, cxb_6, cxb_7, cxb_8, cxb_9⟩ := cells10 qxb.out; 
                      obtain ⟨cfb_0, dfb_0⟩ := Row.cells qfb.out ((rd_T140 l3 i).f0) hel.1 hel.2; 
                      have cp2_0 := cells1 qp2.out; 
                      obtain ⟨cs_0, cs_1, cs_2, cs_3⟩ := cells4 qs.out; 
                      obtain ⟨cp13_0, cp13_1, cp13_2⟩ := cells3 qp13.out; 
                      exact op_keep hI (i := 19) (jk_ hJ (by decide)) (hrun := gs_)
                    | 20, _ =>
                      intro b a wq hI hbi_ hb_ hoff_
                      have e146 := hI.new 146 19 (by decide) (hb_ 19 (by decide)) rfl fun _ h => h
                      have s146 := sv_ e146
                      have e145 := hI.new 145 18 (by decide) (hb_ 18 (by decide)) rfl fun _ h => h
                      have s145 := sv_ e145
                      have hJ := hI.j
                      obtain ⟨HBq, qxb, qfb, qbb, qrb, qp2, qs, qp13⟩ := j0_ hJ hbi_
                      obtain ⟨cxb_0, cxb_1, cxb_2, cxb_3, cxb_4, cxb_5, cxb_6, cxb_7, cxb_8, cxb_9⟩ := cells10 qxb.out; 
                      obtain ⟨cfb_0, dfb_0⟩ := Row.cells qfb.out ((rd_T140 l3 i).f0) hel.1 hel.2; 
                      have cp2_0 := cells1 qp2.out; 
                      obtain ⟨cs_0, cs_1, cs_2, cs_3⟩ := cells4 qs.out; 
                      obtain ⟨cp13_0, cp13_1, cp13_2⟩ := cells3 qp13.out; 
                      refine ⟨_, rfl, rfl, fun K hK => ?_⟩
                      obtain ⟨w2, hrun2, hrow2, hg2⟩ := Row.store (P := Try.prog) (by kernel_rfl) qfb.out ((rd_T140 l3 i).f0) (hel.1) (hel.2) ((wrap64 ((rd_T32 (F') ((rd_T140 l3 i).f0)).f0 + (rd_T140 l3 i).f1.f0))) ((wrap64 ((rd_T32 (F') ((rd_T140 l3 i).f0)).f1 + (rd_T140 l3 i).f1.f1)))
                      refine skip_ rfl rfl (w1 := w2) (by unfold execOp; simp [e146, e145, hrun2]) (hK undef _ (j1_up ⟨ap_g hg2 HBq (Or.inr (Or.inl rfl)), blk_g hg2 qxb (by first | exact N_xb_fb.out | exact N_fb_xb.out.symm), ⟨hrow2⟩, row_g hg2 qbb (by first | exact N_bb_fb.out | exact N_fb_bb.out.symm), row_g hg2 qrb (by first | exact N_rb_fb.out | exact N_fb_rb.out.symm), blk_g hg2 qp2 (by first | exact N_p2_fb.out | exact N_fb_p2.out.symm), blk_g hg2 qs (by first | exact N_s_fb.out | exact N_fb_s.out.symm)⟩) (fun _ _ h => h) trivial)
                    | o_ + 21, hi => exact absurd hi (by omega)
                  intro vs wn b_ hall hJ hT
                  replace hJ := j1_ hJ (hall 20 (by decide))
                  obtain ⟨HJ0, HT0⟩ : Aside0 _ ∧ Aside0 _ := ⟨⟨hJ⟩, ⟨hT⟩⟩
                  clear hall hJ hT
                  simp only [fillAll, show List.range 21 = [0, 1, 2, 3, 4, 5, 6, 7, 8, 9, 10, 11, 12, 13, 14, 15, 16, 17, 18, 19, 20] from rfl]
                  rw [show vs 0 = _ from HT0.out 0 (by decide) (by decide), show vs 1 = _ from HT0.out 1 (by decide) (by decide), show vs 2 = _ from HT0.out 2 (by decide) (by decide), show vs 3 = _ from HT0.out 3 (by decide) (by decide), show vs 4 = _ from HT0.out 4 (by decide) (by decide), show vs 5 = _ from HT0.out 5 (by decide) (by decide), show vs 6 = _ from HT0.out 6 (by decide) (by decide), show vs 7 = _ from HT0.out 7 (by decide) (by decide), show vs 8 = _ from HT0.out 8 (by decide) (by decide), show vs 9 = _ from HT0.out 9 (by decide) (by decide), show vs 10 = _ from HT0.out 10 (by decide) (by decide), show vs 11 = _ from HT0.out 11 (by decide) (by decide), show vs 12 = _ from HT0.out 12 (by decide) (by decide), show vs 13 = _ from HT0.out 13 (by decide) (by decide), show vs 14 = _ from HT0.out 14 (by decide) (by decide), show vs 15 = _ from HT0.out 15 (by decide) (by decide), show vs 16 = _ from HT0.out 16 (by decide) (by decide), show vs 17 = _ from HT0.out 17 (by decide) (by decide), show vs 18 = _ from HT0.out 18 (by decide) (by decide), show vs 19 = _ from HT0.out 19 (by decide) (by decide)]
                  simp only [Act.put, List.setIfInBounds_toArray, List.set_cons_zero, List.set_cons_succ]
                  clear HB Bxb Bfb Bbb Brb Bp2 Bs Bp13
                  obtain ⟨HB, Bxb, Bfb, Bbb, Brb, Bp2, Bs⟩ := HJ0.out
                  clear HJ0 HT0
                  (try clear cxb_0 cxb_1 cxb_2 cxb_3 cxb_4 cxb_5 cxb_6 cxb_7 cxb_8 cxb_9); (try clear cfb_0 dfb_0); (try clear cp2_0); (try clear cs_0 cs_1 cs_2 cs_3); (try clear cp13_0 cp13_1 cp13_2)
                  go_wp2
                  go_roundg (l3.length - (i + 1).toNat)
                  case measure => have := Hn.out; omega
                  case rel => exact ⟨i + 1, _, by omega, rfl, by omega, rfl, ⟨by rw [HE.out, HD.out, leakS]; rfl⟩, ⟨(ap_r HB)⟩, ⟨Bxb.out⟩, ⟨(row_r Bfb)⟩, ⟨(row_r Bbb)⟩, ⟨(row_r Brb)⟩, ⟨Bp2.out⟩, ⟨Bs.out⟩⟩
                · have HE1 : Aside0 ((flowS l0 l1 l2 l3 sh F) = F') := ⟨by unfold flowS; rw [HE.out, List.drop_eq_nil_of_le (by omega)]; rfl⟩
                  go_wp2
                  go_end0
                  exact ⟨⟨_, rfl⟩, (ap_r HB), ⟨Bxb.out, by rw [HE1.out]; exact Bfb.out, Bbb.out, Brb.out⟩⟩
end
end Go.Proofs.Ytkhnhkjihhhbbaa.P

namespace Go.Proofs.Ytkhnhkjihhhbbaa.P
open Go.RowKit Go.Proofs.YtkhnhkjihhhbbaaW.PrintWords Go.Proofs.YtkhnhkjihhhbbaaW.PrintLast Go.Proofs.YtkhnhkjihhhbbaaW.PrintMore
set_option linter.unusedVariables false
set_option linter.unusedSimpArgs false
attribute [local go_sem] max2_int min2_int max_two min_two
section
variable {P : Program}
theorem run_boxstore {W : World} {g : Nat} {t : TypeId} {u0 v0 : Value} (hg : W.heap[g]? = some (.cells #[u0, v0] t (0, 0))) (u v : Value) {ty : TypeId} (hi : (P.info? ty).map (·.size) = some 2) (h1 : u.oneCell' = true) (h2 : v.oneCell' = true) :
    ∃ w1, (Instr.storeAt ty (.pointer (some ⟨g, 0, none⟩)) (.agg #[u, v])).run P W = .ok () w1 ∧ w1.heap[g]? = some (.cells #[u, v] t (0, 0)) ∧ Only g W w1 := by
  refine ⟨W.setRow g #[u, v], ?_, by simp [World.setRow, Array.getElem?_modify, hg], Only.setRow W g _⟩
  simp only [Instr.storeAt, Instr.sureAddr, Sem.run_bind, Sem.run_pure, Result.andThen_ok, run_storeVar_row W g t ty #[u0, v0] #[u, v] hg hi rfl (by simp [h1, h2])]
end
/-- Two new boxes of a region of open order: places s1 and s2, made by operations i1 and i2, written by j1 and j2. -/
structure Two (s1 s2 : Tmp) (i1 i2 j1 j2 : Nat) (z c1 c2 : Array Value) (ty : TypeId) (n0 : Nat) (b : Nat → Bool) (a : Act) (w : World) : Prop where
  size : n0 ≤ w.heap.size
  fst : b i1 = true → ∃ g, a.tmps[s1]? = some (.pointer (some ⟨g, 0, none⟩)) ∧ n0 ≤ g ∧ w.heap[g]? = some (.cells (if b j1 = true then c1 else z) ty (0, 0))
  snd : b i2 = true → ∃ g, a.tmps[s2]? = some (.pointer (some ⟨g, 0, none⟩)) ∧ n0 ≤ g ∧ w.heap[g]? = some (.cells (if b j2 = true then c2 else z) ty (0, 0))
  ne : b i1 = true → b i2 = true → a.tmps[s1]? ≠ a.tmps[s2]?
section
variable {s1 s2 s : Tmp} {i1 i2 j1 j2 i : Nat} {z c1 c2 : Array Value} {ty : TypeId} {n0 : Nat} {b : Nat → Bool} {a : Act} {w w2 : World} {v : Value}
theorem put_ne {t : Tmp} (h : s ≠ t) : (a.put (some s) v).tmps[t]? = a.tmps[t]? := by rw [put_get, if_neg h]
theorem Two.start (h : n0 ≤ w.heap.size) : Two s1 s2 i1 i2 j1 j2 z c1 c2 ty n0 (fun _ => false) a w := ⟨h, (fun h => by cases h), (fun h => by cases h), (fun h => by cases h)⟩
theorem Two.keep (h : Two s1 s2 i1 i2 j1 j2 z c1 c2 ty n0 b a w) (h1 : s ≠ s1) (h2 : s ≠ s2) (h3 : i1 ≠ i) (h4 : i2 ≠ i) (h5 : j1 ≠ i) (h6 : j2 ≠ i) : Two s1 s2 i1 i2 j1 j2 z c1 c2 ty n0 (up b i) (a.put (some s) v) w := by
  refine ⟨h.size, ?_, ?_, ?_⟩
  · rw [up_ne h3, up_ne h5, put_ne h1]; exact h.fst
  · rw [up_ne h4, up_ne h6, put_ne h2]; exact h.snd
  · rw [up_ne h3, up_ne h4, put_ne h1, put_ne h2]; exact h.ne
theorem Two.alloc1 (h : Two s1 s2 i1 i2 j1 j2 z c1 c2 ty n0 b a w) (hj : b j1 = false) (hs : s1 < a.tmps.size) (h1 : s1 ≠ s2) (h2 : i2 ≠ i1) (h3 : j1 ≠ i1) (h4 : j2 ≠ i1) :
    Two s1 s2 i1 i2 j1 j2 z c1 c2 ty n0 (up b i1) (a.put (some s1) (.pointer (some ⟨w.heap.size, 0, none⟩))) (w.alloc (.cells z ty)) := by
  have hself : (a.put (some s1) (.pointer (some ⟨w.heap.size, 0, none⟩))).tmps[s1]? = some (.pointer (some ⟨w.heap.size, 0, none⟩)) := by rw [put_get, if_pos rfl, if_pos hs]
  refine ⟨Nat.le_trans h.size (below_alloc (Below.refl w.heap.size w) _).size, fun _ => ⟨_, hself, h.size, ?_⟩, ?_, ?_⟩
  · rw [up_ne h3, hj]; exact heap_alloc_new w _
  · rw [up_ne h2, up_ne h4, put_ne h1]
    intro hb
    obtain ⟨g, h5, h6, h7⟩ := h.snd hb
    exact ⟨g, h5, h6, blk_below h7 (below_alloc (Below.refl _ _) _)⟩
  · rw [up_ne h2, hself, put_ne h1]
    intro _ hb he
    obtain ⟨g, h5, h6, h7⟩ := h.snd hb
    rw [h5] at he
    have := blk_lt h7
    simp at he <;> omega
theorem Two.alloc2 (h : Two s1 s2 i1 i2 j1 j2 z c1 c2 ty n0 b a w) (hj : b j2 = false) (hs : s2 < a.tmps.size) (h1 : s2 ≠ s1) (h2 : i1 ≠ i2) (h3 : j2 ≠ i2) (h4 : j1 ≠ i2) :
    Two s1 s2 i1 i2 j1 j2 z c1 c2 ty n0 (up b i2) (a.put (some s2) (.pointer (some ⟨w.heap.size, 0, none⟩))) (w.alloc (.cells z ty)) := by
  have hself : (a.put (some s2) (.pointer (some ⟨w.heap.size, 0, none⟩))).tmps[s2]? = some (.pointer (some ⟨w.heap.size, 0, none⟩)) := by rw [put_get, if_pos rfl, if_pos hs]
  refine ⟨Nat.le_trans h.size (below_alloc (Below.refl w.heap.size w) _).size, ?_, fun _ => ⟨_, hself, h.size, ?_⟩, ?_⟩
  · rw [up_ne h2, up_ne h4, put_ne h1]
    intro hb
    obtain ⟨g, h5, h6, h7⟩ := h.fst hb
    exact ⟨g, h5, h6, blk_below h7 (below_alloc (Below.refl _ _) _)⟩
  · rw [up_ne h3, hj]; exact heap_alloc_new w _
  · rw [up_ne h2, hself, put_ne h1]
    intro hb _ he
    obtain ⟨g, h5, h6, h7⟩ := h.fst hb
    rw [h5] at he
    have := blk_lt h7
    simp at he <;> omega
theorem Two.store1 {g : Nat} (h : Two s1 s2 i1 i2 j1 j2 z c1 c2 ty n0 b a w) (hb : b i1 = true) (hv : a.tmps[s1]? = some (.pointer (some ⟨g, 0, none⟩))) (hc : w2.heap[g]? = some (.cells c1 ty (0, 0))) (ho : Only g w w2) (h1 : i1 ≠ j1) (h2 : i2 ≠ j1) (h3 : j2 ≠ j1) :
    Two s1 s2 i1 i2 j1 j2 z c1 c2 ty n0 (up b j1) (a.put none v) w2 := by
  refine ⟨by rw [ho.size]; exact h.size, ?_, ?_, ?_⟩
  · rw [up_self, if_pos rfl]
    intro _
    obtain ⟨g', h4, h5, _⟩ := h.fst hb
    rw [hv] at h4
    injection h4 with h4; injection h4 with h4; injection h4 with h4; injection h4 with h4
    subst h4
    exact ⟨g, hv, h5, hc⟩
  · rw [up_ne h2, up_ne h3]
    intro hb2
    obtain ⟨g', h4, h5, h6⟩ := h.snd hb2
    exact ⟨g', h4, h5, ho.blk h6 (fun e => h.ne hb hb2 (by rw [hv, show a.tmps[s2]? = _ from h4, e]))⟩
  · rw [up_ne h1, up_ne h2]; exact h.ne
theorem Two.store2 {g : Nat} (h : Two s1 s2 i1 i2 j1 j2 z c1 c2 ty n0 b a w) (hb : b i2 = true) (hv : a.tmps[s2]? = some (.pointer (some ⟨g, 0, none⟩))) (hc : w2.heap[g]? = some (.cells c2 ty (0, 0))) (ho : Only g w w2) (h1 : i2 ≠ j2) (h2 : i1 ≠ j2) (h3 : j1 ≠ j2) :
    Two s1 s2 i1 i2 j1 j2 z c1 c2 ty n0 (up b j2) (a.put none v) w2 := by
  refine ⟨by rw [ho.size]; exact h.size, ?_, ?_, ?_⟩
  · rw [up_ne h2, up_ne h3]
    intro hb2
    obtain ⟨g', h4, h5, h6⟩ := h.fst hb2
    exact ⟨g', h4, h5, ho.blk h6 (fun e => h.ne hb2 hb (by rw [hv, show a.tmps[s1]? = _ from h4, e]))⟩
  · rw [up_self, if_pos rfl]
    intro _
    obtain ⟨g', h4, h5, _⟩ := h.snd hb
    rw [hv] at h4
    injection h4 with h4; injection h4 with h4; injection h4 with h4; injection h4 with h4
    subst h4
    exact ⟨g, hv, h5, hc⟩
  · rw [up_ne h1, up_ne h2]; exact h.ne
end
/-- What getters bind. -/
def getS : List S142 → Int → List S32 → List S32 → List S32 × List S32
  | [], _, F, R => (F, R)
  | t :: l, i, F, R => getS l (i + 1)
      (F.set t.f0.toNat ⟨wrap64 ((rd_T32 F t.f0).f0 - mn (up_ (rd_T32 F t.f0).f0 t.f1.f1) (rd_T32 R i).f1), wrap64 ((rd_T32 F t.f0).f1 - mn (down (rd_T32 F t.f0).f1 t.f1.f0) (rd_T32 R i).f0)⟩)
      (R.set i.toNat ⟨mx 0 (wrap64 ((rd_T32 R i).f0 - up_ (rd_T32 F t.f0).f1 t.f1.f1)), mx 0 (wrap64 ((rd_T32 R i).f1 - down (rd_T32 F t.f0).f0 t.f1.f0))⟩)
section
variable {w0 w : World} {xb fb bb rb : Nat} {A0 A1 A2 A3 A4 As : Option Addr} {c0 c1 c2 c3 c4 cF cB cs : Nat} {vR : Value} {l0 : List S36} {l1 : List S138} {l2 : List S112} {l3 : List S140} {l4 : List S142} {F Bd Rm : List S32} {mo tk he : Int} {fl fs : Bool} {sh : List Int}
set_option maxHeartbeats 8000000 in
set_option maxRecDepth 100000 in
theorem get_true (hE : Env w0 w xb fb bb rb A0 A1 A2 A3 A4 c0 c1 c2 c3 c4 l0 l1 l2 l3 l4) (hS : Sys xb fb bb rb A0 A1 A2 A3 A4 c0 c1 c2 c3 c4 cF cB vR l0 l1 l2 l3 l4 F Bd Rm mo true w) (hgt : ∀ x ∈ l4, 0 ≤ x.f0 ∧ x.f0 < (l0.length : Int)) (hvR : 0 < l4.length → ∃ cR, vR = .slice (some ⟨rb, 0, none⟩) l4.length cR) :
    Calls Try.prog 144 #[.pointer (some ⟨xb, 0, none⟩), .agg #[.int .i64 tk, .int .i64 he, .slice As sh.length cs, .bool fs]] w fun e w' => (∃ v, e = .returned v) ∧ Apart xb fb bb rb w w' ∧ Sys xb fb bb rb A0 A1 A2 A3 A4 c0 c1 c2 c3 c4 cF cB vR l0 l1 l2 l3 l4 (getS l4 0 F Rm).1 Bd (getS l4 0 F Rm).2 mo true w' := by
  obtain ⟨H0, hs1, hs2, hs3, hs4, hl1, hl2, hl3, hl4, n1, n2, n3, n4, n5, n6, hr0, hr1, hr2, hr3, hr4, hc0, hc1, hc2, hc3, hc4, hm0⟩ := hE
  have HX : Aside0 (xb < w.heap.size ∧ fb < w.heap.size ∧ bb < w.heap.size ∧ rb < w.heap.size) := ⟨hl1, hl2, hl3, hl4⟩
  have HG : Aside0 (w0.heap.size ≤ xb ∧ w0.heap.size ≤ fb ∧ w0.heap.size ≤ bb ∧ w0.heap.size ≤ rb ∧ w0.heap.size ≤ w.heap.size) := ⟨hs1, hs2, hs3, hs4, H0.size⟩
  have HW0 := Aside0.mk H0
  clear hl1 hl2 hl3 hl4 hs1 hs2 hs3 hs4 H0
  have N_xb_fb := Aside0.mk n1
  have N_xb_bb := Aside0.mk n2
  have N_xb_rb := Aside0.mk n3
  have N_fb_bb := Aside0.mk n4
  have N_fb_rb := Aside0.mk n5
  have N_bb_rb := Aside0.mk n6
  have HR0 := Aside0.mk hr0
  have HR1 := Aside0.mk hr1
  have HR2 := Aside0.mk hr2
  have HR3 := Aside0.mk hr3
  have HR4 := Aside0.mk hr4
  have HC0 := Aside0.mk hc0
  have HC1 := Aside0.mk hc1
  have HC2 := Aside0.mk hc2
  have HC3 := Aside0.mk hc3
  have HC4 := Aside0.mk hc4
  have HM := Aside0.mk hm0
  clear n1 n2 n3 n4 n5 n6 hr0 hr1 hr2 hr3 hr4 hc0 hc1 hc2 hc3 hc4 hm0
  have HB : Aside0 (Apart xb fb bb rb w w) := ⟨Apart.refl w⟩
  obtain ⟨hb1, hb2, hb3, hb4⟩ := hS
  have Bxb := Aside0.mk hb1
  have Bfb := Aside0.mk hb2
  have Bbb := Aside0.mk hb3
  have Brb := Aside0.mk hb4
  clear hb1 hb2 hb3 hb4
  have HGT := Aside0.mk hgt
  have HVR := Aside0.mk hvR
  clear hgt hvR
  obtain ⟨cxb_0, cxb_1, cxb_2, cxb_3, cxb_4, cxb_5, cxb_6, cxb_7, cxb_8, cxb_9⟩ := cells10 Bxb.out; 
  go_enter Try.func144, Try.ntmps144
  go_wp2_with (first | ((with_reducible refine gate_dst (N := 3) rfl ?_); go_must (refine box_ev (N := 3) (cs := #[.int .i64 tk, .int .i64 he, .slice As sh.length cs, .bool fs]) (t := 45) (h := ?_); intro s hgs w1 hbox hb; have GEs := ge_newx HB hgs; have N_xb_s := ne_newx HX.out.1 HB hgs; have N_fb_s := ne_newx HX.out.2.1 HB hgs; have N_bb_s := ne_newx HX.out.2.2.1 HB hgs; have N_rb_s := ne_newx HX.out.2.2.2 HB hgs; replace HB := ap_b hb HB; replace Bxb := blk_b hb Bxb; (try clear cxb_0 cxb_1 cxb_2 cxb_3 cxb_4 cxb_5 cxb_6 cxb_7 cxb_8 cxb_9); obtain ⟨cxb_0, cxb_1, cxb_2, cxb_3, cxb_4, cxb_5, cxb_6, cxb_7, cxb_8, cxb_9⟩ := cells10 Bxb.out; replace Bfb := row_b hb Bfb; replace Bbb := row_b hb Bbb; replace Brb := row_b hb Brb; have Bs := Aside0.mk hbox; clear hbox; obtain ⟨cs_0, cs_1, cs_2, cs_3⟩ := cells4 Bs.out; (try clear hb); clear hgs)))
  (try clear cxb_0 cxb_1 cxb_2 cxb_3 cxb_4 cxb_5 cxb_6 cxb_7 cxb_8 cxb_9); (try clear cs_0 cs_1 cs_2 cs_3)
  go_loopg [20] (l4.length) (fun k v20 w' => ∃ (i : Int) (F' R' : List S32), 0 ≤ i ∧ k = l4.length - i.toNat ∧ i ≤ l4.length ∧ v20 = .int .i64 i ∧ Aside0 (getS l4 0 F Rm = getS (l4.drop i.toNat) i F' R') ∧ Aside0 (Apart xb fb bb rb w w') ∧ Aside0 (w'.heap[xb]? = some (.cells #[.slice A0 l0.length c0, .slice A1 l1.length c1, .slice A2 l2.length c2, .slice A3 l3.length c3, .slice A4 l4.length c4, .slice (some ⟨fb, 0, none⟩) l0.length cF, .slice (some ⟨bb, 0, none⟩) l0.length cB, vR, .int .i64 mo, .bool true] 119 (0, 0))) ∧ Aside0 (Row w' fb (.slice (some ⟨fb, 0, none⟩) l0.length cF) (F')) ∧ Aside0 (Row w' bb (.slice (some ⟨bb, 0, none⟩) l0.length cB) (Bd)) ∧ Aside0 (Row w' rb (vR) (R')) ∧ Aside0 (w'.heap[s]? = some (.cells #[.int .i64 tk, .int .i64 he, .slice As sh.length cs, .bool fs] 45 (0, 0))))
  case atStart => exact ⟨0, F, Rm, by omega, by simp, by omega, rfl, ⟨by simp⟩, HB, Bxb, Bfb, Bbb, Brb, Bs⟩
  case round =>
    clear HB Bxb Bfb Bbb Brb Bs
    obtain ⟨i, F', R', hi0, hn, hi, rfl, HE, HB, Bxb, Bfb, Bbb, Brb, Bs⟩ := hrel
    have Hn := Aside0.mk hn
    clear hn
    by_cases hi' : i < l4.length
    · have HD : Aside0 (l4.drop i.toNat = (rd_T142 l4 i) :: l4.drop (i + 1).toNat) := ⟨by
        rw [show (i + 1).toNat = i.toNat + 1 by omega, List.drop_eq_getElem_cons (by omega)]; unfold rd_T142; simp [List.getD_eq_getElem?_getD, List.getElem?_eq_getElem (show i.toNat < l4.length by omega)]⟩
      have hel := HGT.out (rd_T142 l4 i) (List.mem_of_mem_drop (HD.out ▸ List.mem_cons_self))
      obtain ⟨cR, hvR⟩ := HVR.out (by omega)
      clear HVR
      subst hvR
      obtain ⟨cxb_0, cxb_1, cxb_2, cxb_3, cxb_4, cxb_5, cxb_6, cxb_7, cxb_8, cxb_9⟩ := cells10 Bxb.out
      obtain ⟨ad, had, k0, k1, k2, k3, k4⟩ := at_T142 HR4.out i hi0 (hi')
      replace k0 := pw_cell_below (Apart.below (show Apart xb fb bb rb w _ from (ap_r HB)) HW0.out HG.out.2.2.2.2 HG.out.1 HG.out.2.1 HG.out.2.2.1 HG.out.2.2.2.1) k0
      replace k1 := pw_cell_below (Apart.below (show Apart xb fb bb rb w _ from (ap_r HB)) HW0.out HG.out.2.2.2.2 HG.out.1 HG.out.2.1 HG.out.2.2.1 HG.out.2.2.2.1) k1
      replace k2 := pw_cell_below (Apart.below (show Apart xb fb bb rb w _ from (ap_r HB)) HW0.out HG.out.2.2.2.2 HG.out.1 HG.out.2.1 HG.out.2.2.1 HG.out.2.2.2.1) k2
      replace k3 := pw_cell_below (Apart.below (show Apart xb fb bb rb w _ from (ap_r HB)) HW0.out HG.out.2.2.2.2 HG.out.1 HG.out.2.1 HG.out.2.2.1 HG.out.2.2.2.1) k3
      replace k4 := pw_cell_below (Apart.below (show Apart xb fb bb rb w _ from (ap_r HB)) HW0.out HG.out.2.2.2.2 HG.out.1 HG.out.2.1 HG.out.2.2.1 HG.out.2.2.2.1) k4
      cases had
      have hm3 := HM.out.2.2.2.2
      go_wp2_with (first | ((with_reducible refine gate_dst (N := 5) rfl ?_); go_must (refine box_ev (N := 5) (cs := #[.int .i64 0, .int .i64 0, .int .i64 0, .int .i64 0, .int .i64 0]) (t := 142) (h := ?_); intro p5 hgp5 w3 hbox hb; have GEp5 := ge_newx HB hgp5; have N_xb_p5 := ne_newx HX.out.1 HB hgp5; have N_fb_p5 := ne_newx HX.out.2.1 HB hgp5; have N_bb_p5 := ne_newx HX.out.2.2.1 HB hgp5; have N_rb_p5 := ne_newx HX.out.2.2.2 HB hgp5; have N_s_p5 := ne_new Bs hgp5; replace HB := ap_b hb HB; replace Bxb := blk_b hb Bxb; (try clear cxb_0 cxb_1 cxb_2 cxb_3 cxb_4 cxb_5 cxb_6 cxb_7 cxb_8 cxb_9); obtain ⟨cxb_0, cxb_1, cxb_2, cxb_3, cxb_4, cxb_5, cxb_6, cxb_7, cxb_8, cxb_9⟩ := cells10 Bxb.out; replace Bfb := row_b hb Bfb; replace Bbb := row_b hb Bbb; replace Brb := row_b hb Brb; replace Bs := blk_b hb Bs; (try clear cs_0 cs_1 cs_2 cs_3); obtain ⟨cs_0, cs_1, cs_2, cs_3⟩ := cells4 Bs.out; have Bp5 := Aside0.mk hbox; clear hbox; obtain ⟨cp5_0, cp5_1, cp5_2, cp5_3, cp5_4⟩ := cells5 Bp5.out; (try clear hb); clear hgp5)) | ((with_reducible refine gate_store (t := 142) (p := 5) rfl ?_); go_must (refine row_ev p5 #[.int .i64 (rd_T142 l4 i).f0, .int .i64 (rd_T142 l4 i).f1.f0, .int .i64 (rd_T142 l4 i).f1.f1, .int .i64 (rd_T142 l4 i).f2.f0, .int .i64 (rd_T142 l4 i).f2.f1] Bp5.out (h := ?_); intro w4 hbox ho_; replace HB := ap_o ho_ HB (Or.inr (Or.inr (Or.inr (Or.inr GEp5.out)))); replace Bxb := blk_o ho_ Bxb (by first | exact N_xb_p5.out | exact N_p5_xb.out.symm); (try clear cxb_0 cxb_1 cxb_2 cxb_3 cxb_4 cxb_5 cxb_6 cxb_7 cxb_8 cxb_9); obtain ⟨cxb_0, cxb_1, cxb_2, cxb_3, cxb_4, cxb_5, cxb_6, cxb_7, cxb_8, cxb_9⟩ := cells10 Bxb.out; replace Bfb := row_o ho_ Bfb (by first | exact N_fb_p5.out | exact N_p5_fb.out.symm); replace Bbb := row_o ho_ Bbb (by first | exact N_bb_p5.out | exact N_p5_bb.out.symm); replace Brb := row_o ho_ Brb (by first | exact N_rb_p5.out | exact N_p5_rb.out.symm); replace Bs := blk_o ho_ Bs (by first | exact N_s_p5.out | exact N_p5_s.out.symm); (try clear cs_0 cs_1 cs_2 cs_3); obtain ⟨cs_0, cs_1, cs_2, cs_3⟩ := cells4 Bs.out; replace Bp5 := Aside0.mk hbox; clear hbox ho_; (try clear cp5_0 cp5_1 cp5_2 cp5_3 cp5_4); obtain ⟨cp5_0, cp5_1, cp5_2, cp5_3, cp5_4⟩ := cells5 Bp5.out; )))
      obtain ⟨n0, hn0⟩ : ∃ n, n = w4.heap.size := ⟨_, rfl⟩
      have HN0 : Aside0 (w.heap.size ≤ n0 ∧ n0 ≤ w4.heap.size ∧ xb < n0 ∧ fb < n0 ∧ bb < n0 ∧ rb < n0 ∧ s < n0 ∧ p5 < n0) := ⟨by
        have h1_ := HB.out.size
        have h2_ := HX.out
        have h3_ := blk_lt Bs.out
        have h4_ := blk_lt Bp5.out
        omega⟩
      clear hn0
      (try clear cxb_0 cxb_1 cxb_2 cxb_3 cxb_4 cxb_5 cxb_6 cxb_7 cxb_8 cxb_9); (try clear cs_0 cs_1 cs_2 cs_3); (try clear cp5_0 cp5_1 cp5_2 cp5_3 cp5_4)
      refine region_ria (n := 21) (B := [0, 1, 3, 7, 15, 0, 32, 127, 255, 0, 512, 1536, 3584, 7680, 0, 32256, 65024, 0, 0, 393727, 1048575]) (fun o_ => match o_ with | 0 => some 25 | 1 => some 26 | 2 => some 27 | 3 => some 28 | 4 => some 29 | 5 => some 30 | 6 => some 31 | 7 => some 32 | 8 => some 33 | 9 => some 34 | 10 => some 35 | 11 => some 36 | 12 => some 37 | 13 => some 38 | 14 => some 39 | 15 => some 40 | 16 => some 41 | 17 => some 6 | 18 => some 7 | 19 => none | 20 => none | _ => none) (fun o_ q_ w' => match o_ with | 0 => q_ = .pointer (some ⟨xb, 0, none⟩) | 1 => q_ = .pointer (some ⟨xb, 0, none⟩) | 2 => q_ = .pointer (some ⟨xb, 5, none⟩) | 3 => q_ = .pointer (some ⟨xb, 5, none⟩) | 4 => q_ = .slice (some ⟨fb, 0, none⟩) l0.length cF | 5 => q_ = .pointer (some ⟨p5, 0, none⟩) | 6 => q_ = .int .i64 (rd_T142 l4 i).f0 | 7 => q_ = .pointer (some ⟨fb, ((rd_T142 l4 i).f0).toNat * 2, none⟩) | 8 => q_ = .agg #[.int .i64 (rd_T32 F' (rd_T142 l4 i).f0).f0, .int .i64 (rd_T32 F' (rd_T142 l4 i).f0).f1] | 9 => q_ = .pointer (some ⟨xb, 0, none⟩) | 10 => q_ = .pointer (some ⟨xb, 0, none⟩) | 11 => q_ = .pointer (some ⟨xb, 5, none⟩) | 12 => q_ = .pointer (some ⟨xb, 7, none⟩) | 13 => q_ = .slice (some ⟨rb, 0, none⟩) l4.length cR | 14 => q_ = .int .i64 i | 15 => q_ = .pointer (some ⟨rb, i.toNat * 2, none⟩) | 16 => q_ = .agg #[.int .i64 (rd_T32 R' i).f0, .int .i64 (rd_T32 R' i).f1] | 17 => (∃ g_, q_ = .pointer (some ⟨g_, 0, none⟩)) | 18 => (∃ g_, q_ = .pointer (some ⟨g_, 0, none⟩)) | _ => True) (fun b a w' => Aside0 (Apart xb fb bb rb w w') ∧ Aside0 (w'.heap[xb]? = some (.cells #[.slice A0 l0.length c0, .slice A1 l1.length c1, .slice A2 l2.length c2, .slice A3 l3.length c3, .slice (some ad) l4.length c4, .slice (some ⟨fb, 0, none⟩) l0.length cF, .slice (some ⟨bb, 0, none⟩) l0.length cB, .slice (some ⟨rb, 0, none⟩) l4.length cR, .int .i64 mo, .bool true] 119 (0, 0))) ∧ Aside0 (Row w' fb (.slice (some ⟨fb, 0, none⟩) l0.length cF) (F')) ∧ Aside0 (Row w' bb (.slice (some ⟨bb, 0, none⟩) l0.length cB) (Bd)) ∧ Aside0 (Row w' rb (.slice (some ⟨rb, 0, none⟩) l4.length cR) (R')) ∧ Aside0 (w'.heap[s]? = some (.cells #[.int .i64 tk, .int .i64 he, .slice As sh.length cs, .bool fs] 45 (0, 0))) ∧ Aside0 (w'.heap[p5]? = some (.cells #[.int .i64 (rd_T142 l4 i).f0, .int .i64 (rd_T142 l4 i).f1.f0, .int .i64 (rd_T142 l4 i).f1.f1, .int .i64 (rd_T142 l4 i).f2.f0, .int .i64 (rd_T142 l4 i).f2.f1] 142 (0, 0))) ∧ Aside0 (Two 6 7 17 18 19 20 #[.int .i64 0, .int .i64 0] #[.int .i64 (rd_T32 F' (rd_T142 l4 i).f0).f0, .int .i64 (rd_T32 F' (rd_T142 l4 i).f0).f1] #[.int .i64 (rd_T32 R' i).f0, .int .i64 (rd_T32 R' i).f1] 32 n0 b a w')) rfl rfl (by kernel_rfl) (by kernel_rfl) (by kernel_rfl) ⟨⟨Apart.step ((ap_r HB)) (below_drew (Below.refl _ _))⟩, ⟨blk_below (Bxb.out) (below_drew (Below.refl _ _))⟩, ⟨Row.below ((row_r Bfb)) (below_drew (Below.refl _ _))⟩, ⟨Row.below ((row_r Bbb)) (below_drew (Below.refl _ _))⟩, ⟨Row.below ((row_r Brb)) (below_drew (Below.refl _ _))⟩, ⟨blk_below (Bs.out) (below_drew (Below.refl _ _))⟩, ⟨blk_below (Bp5.out) (below_drew (Below.refl _ _))⟩, ⟨Two.start (by have := HN0.out.2.1; exact this)⟩⟩ ?_ ?_
      · intro o_ hi
        match o_, hi with
        | 0, _ =>
          intro b a wq hI hbi_ hb_ hoff_
          have e0 : a.eval (.tmp 0) = .pointer (some ⟨xb, 0, none⟩) := hI.old 0 (by decide) rfl
          have s0 := sv_ e0
          have hJ := hI.j
          obtain ⟨HBq, qxb, qfb, qbb, qrb, qs, qp5, qTw⟩ := hJ
          obtain ⟨cxb_0, cxb_1, cxb_2, cxb_3, cxb_4, cxb_5, cxb_6, cxb_7, cxb_8, cxb_9⟩ := cells10 qxb.out
          obtain ⟨cfb_0, dfb_0⟩ := Row.cells qfb.out ((rd_T142 l4 i).f0) hel.1 hel.2
          obtain ⟨crb_0, drb_0⟩ := Row.cells qrb.out i hi0 hi'
          obtain ⟨cs_0, cs_1, cs_2, cs_3⟩ := cells4 qs.out
          obtain ⟨cp5_0, cp5_1, cp5_2, cp5_3, cp5_4⟩ := cells5 qp5.out
          exact op_keepA hI (i := 0) ⟨HBq, qxb, qfb, qbb, qrb, qs, qp5, ⟨Two.keep qTw.out (by decide) (by decide) (by decide) (by decide) (by decide) (by decide)⟩⟩ (hrun := gs_)
        | 1, _ =>
          intro b a wq hI hbi_ hb_ hoff_
          have e25 := hI.new 25 0 (by decide) (hb_ 0 (by decide)) rfl fun _ h => h
          have s25 := sv_ e25
          have hJ := hI.j
          obtain ⟨HBq, qxb, qfb, qbb, qrb, qs, qp5, qTw⟩ := hJ
          obtain ⟨cxb_0, cxb_1, cxb_2, cxb_3, cxb_4, cxb_5, cxb_6, cxb_7, cxb_8, cxb_9⟩ := cells10 qxb.out
          obtain ⟨cfb_0, dfb_0⟩ := Row.cells qfb.out ((rd_T142 l4 i).f0) hel.1 hel.2
          obtain ⟨crb_0, drb_0⟩ := Row.cells qrb.out i hi0 hi'
          obtain ⟨cs_0, cs_1, cs_2, cs_3⟩ := cells4 qs.out
          obtain ⟨cp5_0, cp5_1, cp5_2, cp5_3, cp5_4⟩ := cells5 qp5.out
          exact op_keepA hI (i := 1) ⟨HBq, qxb, qfb, qbb, qrb, qs, qp5, ⟨Two.keep qTw.out (by decide) (by decide) (by decide) (by decide) (by decide) (by decide)⟩⟩ (hrun := gs_)
        | 2, _ =>
          intro b a wq hI hbi_ hb_ hoff_
          have e26 := hI.new 26 1 (by decide) (hb_ 1 (by decide)) rfl fun _ h => h
          have s26 := sv_ e26
          have hJ := hI.j
          obtain ⟨HBq, qxb, qfb, qbb, qrb, qs, qp5, qTw⟩ := hJ
          obtain ⟨cxb_0, cxb_1, cxb_2, cxb_3, cxb_4, cxb_5, cxb_6, cxb_7, cxb_8, cxb_9⟩ := cells10 qxb.out
          obtain ⟨cfb_0, dfb_0⟩ := Row.cells qfb.out ((rd_T142 l4 i).f0) hel.1 hel.2
          obtain ⟨crb_0, drb_0⟩ := Row.cells qrb.out i hi0 hi'
          obtain ⟨cs_0, cs_1, cs_2, cs_3⟩ := cells4 qs.out
          obtain ⟨cp5_0, cp5_1, cp5_2, cp5_3, cp5_4⟩ := cells5 qp5.out
          exact op_keepA hI (i := 2) ⟨HBq, qxb, qfb, qbb, qrb, qs, qp5, ⟨Two.keep qTw.out (by decide) (by decide) (by decide) (by decide) (by decide) (by decide)⟩⟩ (hrun := gs_)
        | 3, _ =>
          intro b a wq hI hbi_ hb_ hoff_
          have e27 := hI.new 27 2 (by decide) (hb_ 2 (by decide)) rfl fun _ h => h
          have s27 := sv_ e27
          have hJ := hI.j
          obtain ⟨HBq, qxb, qfb, qbb, qrb, qs, qp5, qTw⟩ := hJ
          obtain ⟨cxb_0, cxb_1, cxb_2, cxb_3, cxb_4, cxb_5, cxb_6, cxb_7, cxb_8, cxb_9⟩ := cells10 qxb.out
          obtain ⟨cfb_0, dfb_0⟩ := Row.cells qfb.out ((rd_T142 l4 i).f0) hel.1 hel.2
          obtain ⟨crb_0, drb_0⟩ := Row.cells qrb.out i hi0 hi'
          obtain ⟨cs_0, cs_1, cs_2, cs_3⟩ := cells4 qs.out
          obtain ⟨cp5_0, cp5_1, cp5_2, cp5_3, cp5_4⟩ := cells5 qp5.out
          exact op_keepA hI (i := 3) ⟨HBq, qxb, qfb, qbb, qrb, qs, qp5, ⟨Two.keep qTw.out (by decide) (by decide) (by decide) (by decide) (by decide) (by decide)⟩⟩ (hrun := gs_)
        | 4, _ =>
          intro b a wq hI hbi_ hb_ hoff_
          have e28 := hI.new 28 3 (by decide) (hb_ 3 (by decide)) rfl fun _ h => h
          have s28 := sv_ e28
          have hJ := hI.j
          obtain ⟨HBq, qxb, qfb, qbb, qrb, qs, qp5, qTw⟩ := hJ
          obtain ⟨cxb_0, cxb_1, cxb_2, cxb_3, cxb_4, cxb_5, cxb_6, cxb_7, cxb_8, cxb_9⟩ := cells10 qxb.out
          obtain ⟨cfb_0, dfb_0⟩ := Row.cells qfb.out ((rd_T142 l4 i).f0) hel.1 hel.2
          obtain ⟨crb_0, drb_0⟩ := Row.cells qrb.out i hi0 hi'
          obtain ⟨cs_0, cs_1, cs_2, cs_3⟩ := cells4 qs.out
          obtain ⟨cp5_0, cp5_1, cp5_2, cp5_3, cp5_4⟩ := cells5 qp5.out
          exact op_keepA hI (i := 4) ⟨HBq, qxb, qfb, qbb, qrb, qs, qp5, ⟨Two.keep qTw.out (by decide) (by decide) (by decide) (by decide) (by decide) (by decide)⟩⟩ (hrun := gs_)
        | 5, _ =>
          intro b a wq hI hbi_ hb_ hoff_
          have e5 : a.eval (.tmp 5) = .pointer (some ⟨p5, 0, none⟩) := hI.old 5 (by decide) rfl
          have s5 := sv_ e5
          have hJ := hI.j
          obtain ⟨HBq, qxb, qfb, qbb, qrb, qs, qp5, qTw⟩ := hJ
          obtain ⟨cxb_0, cxb_1, cxb_2, cxb_3, cxb_4, cxb_5, cxb_6, cxb_7, cxb_8, cxb_9⟩ := cells10 qxb.out
          obtain ⟨cfb_0, dfb_0⟩ := Row.cells qfb.out ((rd_T142 l4 i).f0) hel.1 hel.2
          obtain ⟨crb_0, drb_0⟩ := Row.cells qrb.out i hi0 hi'
          obtain ⟨cs_0, cs_1, cs_2, cs_3⟩ := cells4 qs.out
          obtain ⟨cp5_0, cp5_1, cp5_2, cp5_3, cp5_4⟩ := cells5 qp5.out
          exact op_keepA hI (i := 5) ⟨HBq, qxb, qfb, qbb, qrb, qs, qp5, ⟨Two.keep qTw.out (by decide) (by decide) (by decide) (by decide) (by decide) (by decide)⟩⟩ (hrun := gs_)
        | 6, _ =>
          intro b a wq hI hbi_ hb_ hoff_
          have e30 := hI.new 30 5 (by decide) (hb_ 5 (by decide)) rfl fun _ h => h
          have s30 := sv_ e30
          have hJ := hI.j
          obtain ⟨HBq, qxb, qfb, qbb, qrb, qs, qp5, qTw⟩ := hJ
          obtain ⟨cxb_0, cxb_1, cxb_2, cxb_3, cxb_4, cxb_5, cxb_6, cxb_7, cxb_8, cxb_9⟩ := cells10 qxb.out
          obtain ⟨cfb_0, dfb_0⟩ := Row.cells qfb.out ((rd_T142 l4 i).f0) hel.1 hel.2
          obtain ⟨crb_0, drb_0⟩ := Row.cells qrb.out i hi0 hi'
          obtain ⟨cs_0, cs_1, cs_2, cs_3⟩ := cells4 qs.out
          obtain ⟨cp5_0, cp5_1, cp5_2, cp5_3, cp5_4⟩ := cells5 qp5.out
          exact op_keepA hI (i := 6) ⟨HBq, qxb, qfb, qbb, qrb, qs, qp5, ⟨Two.keep qTw.out (by decide) (by decide) (by decide) (by decide) (by decide) (by decide)⟩⟩ (hrun := gs_)
        | 7, _ =>
          intro b a wq hI hbi_ hb_ hoff_
          have e29 := hI.new 29 4 (by decide) (hb_ 4 (by decide)) rfl fun _ h => h
          have s29 := sv_ e29
          have e31 := hI.new 31 6 (by decide) (hb_ 6 (by decide)) rfl fun _ h => h
          have s31 := sv_ e31
          have hJ := hI.j
          obtain ⟨HBq, qxb, qfb, qbb, qrb, qs, qp5, qTw⟩ := hJ
          obtain ⟨cxb_0, cxb_1, cxb_2, cxb_3, cxb_4, cxb_5, cxb_6, cxb_7, cxb_8, cxb_9⟩ := cells10 qxb.out
          obtain ⟨cfb_0, dfb_0⟩ := Row.cells qfb.out ((rd_T142 l4 i).f0) hel.1 hel.2
          obtain ⟨crb_0, drb_0⟩ := Row.cells qrb.out i hi0 hi'
          obtain ⟨cs_0, cs_1, cs_2, cs_3⟩ := cells4 qs.out
          obtain ⟨cp5_0, cp5_1, cp5_2, cp5_3, cp5_4⟩ := cells5 qp5.out
          exact op_keepA hI (i := 7) ⟨HBq, qxb, qfb, qbb, qrb, qs, qp5, ⟨Two.keep qTw.out (by decide) (by decide) (by decide) (by decide) (by decide) (by decide)⟩⟩ (hrun := gs_)
        | 8, _ =>
          intro b a wq hI hbi_ hb_ hoff_
          have e32 := hI.new 32 7 (by decide) (hb_ 7 (by decide)) rfl fun _ h => h
          have s32 := sv_ e32
          have hJ := hI.j
          obtain ⟨HBq, qxb, qfb, qbb, qrb, qs, qp5, qTw⟩ := hJ
          obtain ⟨cxb_0, cxb_1, cxb_2, cxb_3, cxb_4, cxb_5, cxb_6, cxb_7, cxb_8, cxb_9⟩ := cells10 qxb.out
          obtain ⟨cfb_0, dfb_0⟩ := Row.cells qfb.out ((rd_T142 l4 i).f0) hel.1 hel.2
          obtain ⟨crb_0, drb_0⟩ := Row.cells qrb.out i hi0 hi'
          obtain ⟨cs_0, cs_1, cs_2, cs_3⟩ := cells4 qs.out
          obtain ⟨cp5_0, cp5_1, cp5_2, cp5_3, cp5_4⟩ := cells5 qp5.out
          exact op_keepA hI (i := 8) ⟨HBq, qxb, qfb, qbb, qrb, qs, qp5, ⟨Two.keep qTw.out (by decide) (by decide) (by decide) (by decide) (by decide) (by decide)⟩⟩ (hrun := gs_)
        | 9, _ =>
          intro b a wq hI hbi_ hb_ hoff_
          have e0 : a.eval (.tmp 0) = .pointer (some ⟨xb, 0, none⟩) := hI.old 0 (by decide) rfl
          have s0 := sv_ e0
          have hJ := hI.j
          obtain ⟨HBq, qxb, qfb, qbb, qrb, qs, qp5, qTw⟩ := hJ
          obtain ⟨cxb_0, cxb_1, cxb_2, cxb_3, cxb_4, cxb_5, cxb_6, cxb_7, cxb_8, cxb_9⟩ := cells10 qxb.out
          obtain ⟨cfb_0, dfb_0⟩ := Row.cells qfb.out ((rd_T142 l4 i).f0) hel.1 hel.2
          obtain ⟨crb_0, drb_0⟩ := Row.cells qrb.out i hi0 hi'
          obtain ⟨cs_0, cs_1, cs_2, cs_3⟩ := cells4 qs.out
          obtain ⟨cp5_0, cp5_1, cp5_2, cp5_3, cp5_4⟩ := cells5 qp5.out
          exact op_keepA hI (i := 9) ⟨HBq, qxb, qfb, qbb, qrb, qs, qp5, ⟨Two.keep qTw.out (by decide) (by decide) (by decide) (by decide) (by decide) (by decide)⟩⟩ (hrun := gs_)
        | 10, _ =>
          intro b a wq hI hbi_ hb_ hoff_
          have e34 := hI.new 34 9 (by decide) (hb_ 9 (by decide)) rfl fun _ h => h
          have s34 := sv_ e34
          have hJ := hI.j
          obtain ⟨HBq, qxb, qfb, qbb, qrb, qs, qp5, qTw⟩ := hJ
          obtain ⟨cxb_0, cxb_1, cxb_2, cxb_3, cxb_4, cxb_5, cxb_6, cxb_7, cxb_8, cxb_9⟩ := cells10 qxb.out
          obtain ⟨cfb_0, dfb_0⟩ := Row.cells qfb.out ((rd_T142 l4 i).f0) hel.1 hel.2
          obtain ⟨crb_0, drb_0⟩ := Row.cells qrb.out i hi0 hi'
          obtain ⟨cs_0, cs_1, cs_2, cs_3⟩ := cells4 qs.out
          obtain ⟨cp5_0, cp5_1, cp5_2, cp5_3, cp5_4⟩ := cells5 qp5.out
          exact op_keepA hI (i := 10) ⟨HBq, qxb, qfb, qbb, qrb, qs, qp5, ⟨Two.keep qTw.out (by decide) (by decide) (by decide) (by decide) (by decide) (by decide)⟩⟩ (hrun := gs_)
        | 11, _ =>
          intro b a wq hI hbi_ hb_ hoff_
          have e35 := hI.new 35 10 (by decide) (hb_ 10 (by decide)) rfl fun _ h => h
          have s35 := sv_ e35
          have hJ := hI.j
          obtain ⟨HBq, qxb, qfb, qbb, qrb, qs, qp5, qTw⟩ := hJ
          obtain ⟨cxb_0, cxb_1, cxb_2, cxb_3, cxb_4, cxb_5, cxb_6, cxb_7, cxb_8, cxb_9⟩ := cells10 qxb.out
          obtain ⟨cfb_0, dfb_0⟩ := Row.cells qfb.out ((rd_T142 l4 i).f0) hel.1 hel.2
          obtain ⟨crb_0, drb_0⟩ := Row.cells qrb.out i hi0 hi'
          obtain ⟨cs_0, cs_1, cs_2, cs_3⟩ := cells4 qs.out
          obtain ⟨cp5_0, cp5_1, cp5_2, cp5_3, cp5_4⟩ := cells5 qp5.out
          exact op_keepA hI (i := 11) ⟨HBq, qxb, qfb, qbb, qrb, qs, qp5, ⟨Two.keep qTw.out (by decide) (by decide) (by decide) (by decide) (by decide) (by decide)⟩⟩ (hrun := gs_)
        | 12, _ =>
          intro b a wq hI hbi_ hb_ hoff_
          have e36 := hI.new 36 11 (by decide) (hb_ 11 (by decide)) rfl fun _ h => h
          have s36 := sv_ e36
          have hJ := hI.j
          obtain ⟨HBq, qxb, qfb, qbb, qrb, qs, qp5, qTw⟩ := hJ
          obtain ⟨cxb_0, cxb_1, cxb_2, cxb_3, cxb_4, cxb_5, cxb_6, cxb_7, cxb_8, cxb_9⟩ := cells10 qxb.out
          obtain ⟨cfb_0, dfb_0⟩ := Row.cells qfb.out ((rd_T142 l4 i).f0) hel.1 hel.2
          obtain ⟨crb_0, drb_0⟩ := Row.cells qrb.out i hi0 hi'
          obtain ⟨cs_0, cs_1, cs_2, cs_3⟩ := cells4 qs.out
          obtain ⟨cp5_0, cp5_1, cp5_2, cp5_3, cp5_4⟩ := cells5 qp5.out
          exact op_keepA hI (i := 12) ⟨HBq, qxb, qfb, qbb, qrb, qs, qp5, ⟨Two.keep qTw.out (by decide) (by decide) (by decide) (by decide) (by decide) (by decide)⟩⟩ (hrun := gs_)
        | 13, _ =>
          intro b a wq hI hbi_ hb_ hoff_
          have e37 := hI.new 37 12 (by decide) (hb_ 12 (by decide)) rfl fun _ h => h
          have s37 := sv_ e37
          have hJ := hI.j
          obtain ⟨HBq, qxb, qfb, qbb, qrb, qs, qp5, qTw⟩ := hJ
          obtain ⟨cxb_0, cxb_1, cxb_2, cxb_3, cxb_4, cxb_5, cxb_6, cxb_7, cxb_8, cxb_9⟩ := cells10 qxb.out
          obtain ⟨cfb_0, dfb_0⟩ := Row.cells qfb.out ((rd_T142 l4 i).f0) hel.1 hel.2
          obtain ⟨crb_0, drb_0⟩ := Row.cells qrb.out i hi0 hi'
          obtain ⟨cs_0, cs_1, cs_2, cs_3⟩ := cells4 qs.out
          obtain ⟨cp5_0, cp5_1, cp5_2, cp5_3, cp5_4⟩ := cells5 qp5.out
          exact op_keepA hI (i := 13) ⟨HBq, qxb, qfb, qbb, qrb, qs, qp5, ⟨Two.keep qTw.out (by decide) (by decide) (by decide) (by decide) (by decide) (by decide)⟩⟩ (hrun := gs_)
        | 14, _ =>
          intro b a wq hI hbi_ hb_ hoff_
          have e4 : a.eval (.tmp 4) = .int .i64 i := hI.old 4 (by decide) rfl
          have s4 := sv_ e4
          have hJ := hI.j
          obtain ⟨HBq, qxb, qfb, qbb, qrb, qs, qp5, qTw⟩ := hJ
          obtain ⟨cxb_0, cxb_1, cxb_2, cxb_3, cxb_4, cxb_5, cxb_6, cxb_7, cxb_8, cxb_9⟩ := cells10 qxb.out
          obtain ⟨cfb_0, dfb_0⟩ := Row.cells qfb.out ((rd_T142 l4 i).f0) hel.1 hel.2
          obtain ⟨crb_0, drb_0⟩ := Row.cells qrb.out i hi0 hi'
          obtain ⟨cs_0, cs_1, cs_2, cs_3⟩ := cells4 qs.out
          obtain ⟨cp5_0, cp5_1, cp5_2, cp5_3, cp5_4⟩ := cells5 qp5.out
          exact op_keepA hI (i := 14) ⟨HBq, qxb, qfb, qbb, qrb, qs, qp5, ⟨Two.keep qTw.out (by decide) (by decide) (by decide) (by decide) (by decide) (by decide)⟩⟩ (hrun := gs_)
        | 15, _ =>
          intro b a wq hI hbi_ hb_ hoff_
          have e38 := hI.new 38 13 (by decide) (hb_ 13 (by decide)) rfl fun _ h => h
          have s38 := sv_ e38
          have e39 := hI.new 39 14 (by decide) (hb_ 14 (by decide)) rfl fun _ h => h
          have s39 := sv_ e39
          have hJ := hI.j
          obtain ⟨HBq, qxb, qfb, qbb, qrb, qs, qp5, qTw⟩ := hJ
          obtain ⟨cxb_0, cxb_1, cxb_2, cxb_3, cxb_4, cxb_5, cxb_6, cxb_7, cxb_8, cxb_9⟩ := cells10 qxb.out
          obtain ⟨cfb_0, dfb_0⟩ := Row.cells qfb.out ((rd_T142 l4 i).f0) hel.1 hel.2
          obtain ⟨crb_0, drb_0⟩ := Row.cells qrb.out i hi0 hi'
          obtain ⟨cs_0, cs_1, cs_2, cs_3⟩ := cells4 qs.out
          obtain ⟨cp5_0, cp5_1, cp5_2, cp5_3, cp5_4⟩ := cells5 qp5.out
          exact op_keepA hI (i := 15) ⟨HBq, qxb, qfb, qbb, qrb, qs, qp5, ⟨Two.keep qTw.out (by decide) (by decide) (by decide) (by decide) (by decide) (by decide)⟩⟩ (hrun := gs_)
        | 16, _ =>
          intro b a wq hI hbi_ hb_ hoff_
          have e40 := hI.new 40 15 (by decide) (hb_ 15 (by decide)) rfl fun _ h => h
          have s40 := sv_ e40
          have hJ := hI.j
          obtain ⟨HBq, qxb, qfb, qbb, qrb, qs, qp5, qTw⟩ := hJ
          obtain ⟨cxb_0, cxb_1, cxb_2, cxb_3, cxb_4, cxb_5, cxb_6, cxb_7, cxb_8, cxb_9⟩ := cells10 qxb.out
          obtain ⟨cfb_0, dfb_0⟩ := Row.cells qfb.out ((rd_T142 l4 i).f0) hel.1 hel.2
          obtain ⟨crb_0, drb_0⟩ := Row.cells qrb.out i hi0 hi'
          obtain ⟨cs_0, cs_1, cs_2, cs_3⟩ := cells4 qs.out
          obtain ⟨cp5_0, cp5_1, cp5_2, cp5_3, cp5_4⟩ := cells5 qp5.out
          exact op_keepA hI (i := 16) ⟨HBq, qxb, qfb, qbb, qrb, qs, qp5, ⟨Two.keep qTw.out (by decide) (by decide) (by decide) (by decide) (by decide) (by decide)⟩⟩ (hrun := gs_)
        | 17, _ =>
          intro b a wq hI hbi_ hb_ hoff_
          have hJ := hI.j
          obtain ⟨HBq, qxb, qfb, qbb, qrb, qs, qp5, qTw⟩ := hJ
          obtain ⟨cxb_0, cxb_1, cxb_2, cxb_3, cxb_4, cxb_5, cxb_6, cxb_7, cxb_8, cxb_9⟩ := cells10 qxb.out
          obtain ⟨cfb_0, dfb_0⟩ := Row.cells qfb.out ((rd_T142 l4 i).f0) hel.1 hel.2
          obtain ⟨crb_0, drb_0⟩ := Row.cells qrb.out i hi0 hi'
          obtain ⟨cs_0, cs_1, cs_2, cs_3⟩ := cells4 qs.out
          obtain ⟨cp5_0, cp5_1, cp5_2, cp5_3, cp5_4⟩ := cells5 qp5.out
          refine ⟨_, rfl, rfl, fun K hK => ?_⟩
          refine value_ (N := some 6) rfl rfl (v := .pointer (some ⟨wq.heap.size, 0, none⟩)) (w1 := wq.alloc (.cells #[.int .i64 0, .int .i64 0] 32)) gs_ (hK _ _ ⟨⟨Apart.step HBq.out (below_alloc (Below.refl _ _) _)⟩, ⟨blk_below (qxb.out) (below_alloc (Below.refl _ _) _)⟩, ⟨Row.below ((row_r qfb)) (below_alloc (Below.refl _ _) _)⟩, ⟨Row.below ((row_r qbb)) (below_alloc (Below.refl _ _) _)⟩, ⟨Row.below ((row_r qrb)) (below_alloc (Below.refl _ _) _)⟩, ⟨blk_below (qs.out) (below_alloc (Below.refl _ _) _)⟩, ⟨blk_below (qp5.out) (below_alloc (Below.refl _ _) _)⟩, ⟨Two.alloc1 qTw.out (hoff_ 19 (by decide)) (by rw [hI.size]; show (6 : Nat) < 104; decide) (by decide) (by decide) (by decide) (by decide)⟩⟩ (fun k u hk => by revert hk; match k with | 0 => exact id | 1 => exact id | 2 => exact id | 3 => exact id | 4 => exact id | 5 => exact id | 6 => exact id | 7 => exact id | 8 => exact id | 9 => exact id | 10 => exact id | 11 => exact id | 12 => exact id | 13 => exact id | 14 => exact id | 15 => exact id | 16 => exact id | 17 => exact id | 18 => exact id | 19 => exact id | 20 => exact id | k + 21 => exact id) ⟨_, rfl⟩)
        | 18, _ =>
          intro b a wq hI hbi_ hb_ hoff_
          have hJ := hI.j
          obtain ⟨HBq, qxb, qfb, qbb, qrb, qs, qp5, qTw⟩ := hJ
          obtain ⟨cxb_0, cxb_1, cxb_2, cxb_3, cxb_4, cxb_5, cxb_6, cxb_7, cxb_8, cxb_9⟩ := cells10 qxb.out
          obtain ⟨cfb_0, dfb_0⟩ := Row.cells qfb.out ((rd_T142 l4 i).f0) hel.1 hel.2
          obtain ⟨crb_0, drb_0⟩ := Row.cells qrb.out i hi0 hi'
          obtain ⟨cs_0, cs_1, cs_2, cs_3⟩ := cells4 qs.out
          obtain ⟨cp5_0, cp5_1, cp5_2, cp5_3, cp5_4⟩ := cells5 qp5.out
          refine ⟨_, rfl, rfl, fun K hK => ?_⟩
          refine value_ (N := some 7) rfl rfl (v := .pointer (some ⟨wq.heap.size, 0, none⟩)) (w1 := wq.alloc (.cells #[.int .i64 0, .int .i64 0] 32)) gs_ (hK _ _ ⟨⟨Apart.step HBq.out (below_alloc (Below.refl _ _) _)⟩, ⟨blk_below (qxb.out) (below_alloc (Below.refl _ _) _)⟩, ⟨Row.below ((row_r qfb)) (below_alloc (Below.refl _ _) _)⟩, ⟨Row.below ((row_r qbb)) (below_alloc (Below.refl _ _) _)⟩, ⟨Row.below ((row_r qrb)) (below_alloc (Below.refl _ _) _)⟩, ⟨blk_below (qs.out) (below_alloc (Below.refl _ _) _)⟩, ⟨blk_below (qp5.out) (below_alloc (Below.refl _ _) _)⟩, ⟨Two.alloc2 qTw.out (hoff_ 20 (by decide)) (by rw [hI.size]; show (7 : Nat) < 104; decide) (by decide) (by decide) (by decide) (by decide)⟩⟩ (fun k u hk => by revert hk; match k with | 0 => exact id | 1 => exact id | 2 => exact id | 3 => exact id | 4 => exact id | 5 => exact id | 6 => exact id | 7 => exact id | 8 => exact id | 9 => exact id | 10 => exact id | 11 => exact id | 12 => exact id | 13 => exact id | 14 => exact id | 15 => exact id | 16 => exact id | 17 => exact id | 18 => exact id | 19 => exact id | 20 => exact id | k + 21 => exact id) ⟨_, rfl⟩)
        | 19, _ =>
          intro b a wq hI hbi_ hb_ hoff_
          have e33 := hI.new 33 8 (by decide) (hb_ 8 (by decide)) rfl fun _ h => h
          have s33 := sv_ e33
          have hJ := hI.j
          obtain ⟨HBq, qxb, qfb, qbb, qrb, qs, qp5, qTw⟩ := hJ
          obtain ⟨cxb_0, cxb_1, cxb_2, cxb_3, cxb_4, cxb_5, cxb_6, cxb_7, cxb_8, cxb_9⟩ := cells10 qxb.out
          obtain ⟨cfb_0, dfb_0⟩ := Row.cells qfb.out ((rd_T142 l4 i).f0) hel.1 hel.2
          obtain ⟨crb_0, drb_0⟩ := Row.cells qrb.out i hi0 hi'
          obtain ⟨cs_0, cs_1, cs_2, cs_3⟩ := cells4 qs.out
          obtain ⟨cp5_0, cp5_1, cp5_2, cp5_3, cp5_4⟩ := cells5 qp5.out
          refine ⟨_, rfl, rfl, fun K hK => ?_⟩
          obtain ⟨g_, hv_, hg_, hc_⟩ := qTw.out.fst (hb_ 17 (by decide))
          rw [hbi_] at hc_
          simp only [Bool.false_eq_true, if_false] at hc_
          have e6 : a.eval (.tmp 6) = .pointer (some ⟨g_, 0, none⟩) := eval_of hv_
          obtain ⟨w2, hrun2, hbox2, ho2⟩ := run_boxstore (P := Try.prog) (ty := 32) hc_ (.int .i64 (rd_T32 F' (rd_T142 l4 i).f0).f0) (.int .i64 (rd_T32 F' (rd_T142 l4 i).f0).f1) (by kernel_rfl) rfl rfl
          refine skip_ rfl rfl (w1 := w2) (by unfold execOp; simp [e6, e33, hrun2]) (hK undef _ ⟨⟨Apart.only HBq.out ho2 (Or.inr (Or.inr (Or.inr (Or.inr (Nat.le_trans HN0.out.1 hg_)))))⟩, ⟨Only.blk ho2 (qxb.out) (fun e_ => by have := HN0.out; omega)⟩, ⟨Row.only ((row_r qfb)) ho2 (fun e_ => by have := HN0.out; omega)⟩, ⟨Row.only ((row_r qbb)) ho2 (fun e_ => by have := HN0.out; omega)⟩, ⟨Row.only ((row_r qrb)) ho2 (fun e_ => by have := HN0.out; omega)⟩, ⟨Only.blk ho2 (qs.out) (fun e_ => by have := HN0.out; omega)⟩, ⟨Only.blk ho2 (qp5.out) (fun e_ => by have := HN0.out; omega)⟩, ⟨Two.store1 qTw.out (hb_ 17 (by decide)) hv_ hbox2 ho2 (by decide) (by decide) (by decide)⟩⟩ (fun k u hk => by revert hk; match k with | 0 => exact id | 1 => exact id | 2 => exact id | 3 => exact id | 4 => exact id | 5 => exact id | 6 => exact id | 7 => exact id | 8 => exact id | 9 => exact id | 10 => exact id | 11 => exact id | 12 => exact id | 13 => exact id | 14 => exact id | 15 => exact id | 16 => exact id | 17 => exact id | 18 => exact id | 19 => exact id | 20 => exact id | k + 21 => exact id) trivial)
        | 20, _ =>
          intro b a wq hI hbi_ hb_ hoff_
          have e41 := hI.new 41 16 (by decide) (hb_ 16 (by decide)) rfl fun _ h => h
          have s41 := sv_ e41
          have hJ := hI.j
          obtain ⟨HBq, qxb, qfb, qbb, qrb, qs, qp5, qTw⟩ := hJ
          obtain ⟨cxb_0, cxb_1, cxb_2, cxb_3, cxb_4, cxb_5, cxb_6, cxb_7, cxb_8, cxb_9⟩ := cells10 qxb.out
          obtain ⟨cfb_0, dfb_0⟩ := Row.cells qfb.out ((rd_T142 l4 i).f0) hel.1 hel.2
          obtain ⟨crb_0, drb_0⟩ := Row.cells qrb.out i hi0 hi'
          obtain ⟨cs_0, cs_1, cs_2, cs_3⟩ := cells4 qs.out
          obtain ⟨cp5_0, cp5_1, cp5_2, cp5_3, cp5_4⟩ := cells5 qp5.out
          refine ⟨_, rfl, rfl, fun K hK => ?_⟩
          obtain ⟨g_, hv_, hg_, hc_⟩ := qTw.out.snd (hb_ 18 (by decide))
          rw [hbi_] at hc_
          simp only [Bool.false_eq_true, if_false] at hc_
          have e7 : a.eval (.tmp 7) = .pointer (some ⟨g_, 0, none⟩) := eval_of hv_
          obtain ⟨w2, hrun2, hbox2, ho2⟩ := run_boxstore (P := Try.prog) (ty := 32) hc_ (.int .i64 (rd_T32 R' i).f0) (.int .i64 (rd_T32 R' i).f1) (by kernel_rfl) rfl rfl
          refine skip_ rfl rfl (w1 := w2) (by unfold execOp; simp [e7, e41, hrun2]) (hK undef _ ⟨⟨Apart.only HBq.out ho2 (Or.inr (Or.inr (Or.inr (Or.inr (Nat.le_trans HN0.out.1 hg_)))))⟩, ⟨Only.blk ho2 (qxb.out) (fun e_ => by have := HN0.out; omega)⟩, ⟨Row.only ((row_r qfb)) ho2 (fun e_ => by have := HN0.out; omega)⟩, ⟨Row.only ((row_r qbb)) ho2 (fun e_ => by have := HN0.out; omega)⟩, ⟨Row.only ((row_r qrb)) ho2 (fun e_ => by have := HN0.out; omega)⟩, ⟨Only.blk ho2 (qs.out) (fun e_ => by have := HN0.out; omega)⟩, ⟨Only.blk ho2 (qp5.out) (fun e_ => by have := HN0.out; omega)⟩, ⟨Two.store2 qTw.out (hb_ 18 (by decide)) hv_ hbox2 ho2 (by decide) (by decide) (by decide)⟩⟩ (fun k u hk => by revert hk; match k with | 0 => exact id | 1 => exact id | 2 => exact id | 3 => exact id | 4 => exact id | 5 => exact id | 6 => exact id | 7 => exact id | 8 => exact id | 9 => exact id | 10 => exact id | 11 => exact id | 12 => exact id | 13 => exact id | 14 => exact id | 15 => exact id | 16 => exact id | 17 => exact id | 18 => exact id | 19 => exact id | 20 => exact id | k + 21 => exact id) trivial)
        | o_ + 21, hi => exact absurd hi (by omega)
      intro vs wn b_ hall hJ hT
      skip
      obtain ⟨HJ0, HT0, HAL⟩ : Aside0 _ ∧ Aside0 _ ∧ Aside0 _ := ⟨⟨hJ⟩, ⟨hT⟩, ⟨hall⟩⟩
      clear hall hJ hT
      have t0_ := HT0.out 0 (by decide) (by decide)
      have t1_ := HT0.out 1 (by decide) (by decide)
      have t2_ := HT0.out 2 (by decide) (by decide)
      have t3_ := HT0.out 3 (by decide) (by decide)
      have t4_ := HT0.out 4 (by decide) (by decide)
      have t5_ := HT0.out 5 (by decide) (by decide)
      have t6_ := HT0.out 6 (by decide) (by decide)
      have t7_ := HT0.out 7 (by decide) (by decide)
      have t8_ := HT0.out 8 (by decide) (by decide)
      have t9_ := HT0.out 9 (by decide) (by decide)
      have t10_ := HT0.out 10 (by decide) (by decide)
      have t11_ := HT0.out 11 (by decide) (by decide)
      have t12_ := HT0.out 12 (by decide) (by decide)
      have t13_ := HT0.out 13 (by decide) (by decide)
      have t14_ := HT0.out 14 (by decide) (by decide)
      have t15_ := HT0.out 15 (by decide) (by decide)
      have t16_ := HT0.out 16 (by decide) (by decide)
      clear HB Bxb Bfb Bbb Brb Bs Bp5
      (try clear cxb_0 cxb_1 cxb_2 cxb_3 cxb_4 cxb_5 cxb_6 cxb_7 cxb_8 cxb_9); (try clear cfb_0 dfb_0); (try clear crb_0 drb_0); (try clear cs_0 cs_1 cs_2 cs_3); (try clear cp5_0 cp5_1 cp5_2 cp5_3 cp5_4)
      obtain ⟨HB, Bxb, Bfb, Bbb, Brb, Bs, Bp5, BTw⟩ := HJ0.out
      clear HJ0
      obtain ⟨q6, h6_, g6_, c6_⟩ := BTw.out.fst (HAL.out 17 (by decide))
      obtain ⟨q7, h7_, g7_, c7_⟩ := BTw.out.snd (HAL.out 18 (by decide))
      have ne67_ := BTw.out.ne (HAL.out 17 (by decide)) (HAL.out 18 (by decide))
      rw [if_pos (HAL.out 19 (by decide))] at c6_
      rw [if_pos (HAL.out 20 (by decide))] at c7_
      rw [h6_, h7_] at ne67_
      have t17_ := Option.some.inj ((fillAll_on (vs := vs) (i := 17) (s := 6) rfl (List.range 21) _ (by decide) (by decide) (by decide) (by show (6 : Nat) < 104; decide)).symm.trans h6_)
      have t18_ := Option.some.inj ((fillAll_on (vs := vs) (i := 18) (s := 7) rfl (List.range 21) _ (by decide) (by decide) (by decide) (by show (7 : Nat) < 104; decide)).symm.trans h7_)
      clear h6_ h7_ BTw HT0 HAL
      simp only [fillAll, show List.range 21 = [0, 1, 2, 3, 4, 5, 6, 7, 8, 9, 10, 11, 12, 13, 14, 15, 16, 17, 18, 19, 20] from rfl]
      rw [(show vs 0 = _ from t0_), (show vs 1 = _ from t1_), (show vs 2 = _ from t2_), (show vs 3 = _ from t3_), (show vs 4 = _ from t4_), (show vs 5 = _ from t5_), (show vs 6 = _ from t6_), (show vs 7 = _ from t7_), (show vs 8 = _ from t8_), (show vs 9 = _ from t9_), (show vs 10 = _ from t10_), (show vs 11 = _ from t11_), (show vs 12 = _ from t12_), (show vs 13 = _ from t13_), (show vs 14 = _ from t14_), (show vs 15 = _ from t15_), (show vs 16 = _ from t16_), (show vs 17 = _ from t17_), (show vs 18 = _ from t18_)]
      clear t0_ t1_ t2_ t3_ t4_ t5_ t6_ t7_ t8_ t9_ t10_ t11_ t12_ t13_ t14_ t15_ t16_ t17_ t18_
      simp only [Act.put, List.setIfInBounds_toArray, List.set_cons_zero, List.set_cons_succ]
      have N_xb_q6 : Aside0 (xb ≠ q6) := ⟨by have := HN0.out; omega⟩
      have N_xb_q7 : Aside0 (xb ≠ q7) := ⟨by have := HN0.out; omega⟩
      have N_fb_q6 : Aside0 (fb ≠ q6) := ⟨by have := HN0.out; omega⟩
      have N_fb_q7 : Aside0 (fb ≠ q7) := ⟨by have := HN0.out; omega⟩
      have N_bb_q6 : Aside0 (bb ≠ q6) := ⟨by have := HN0.out; omega⟩
      have N_bb_q7 : Aside0 (bb ≠ q7) := ⟨by have := HN0.out; omega⟩
      have N_rb_q6 : Aside0 (rb ≠ q6) := ⟨by have := HN0.out; omega⟩
      have N_rb_q7 : Aside0 (rb ≠ q7) := ⟨by have := HN0.out; omega⟩
      have N_s_q6 : Aside0 (s ≠ q6) := ⟨by have := HN0.out; omega⟩
      have N_s_q7 : Aside0 (s ≠ q7) := ⟨by have := HN0.out; omega⟩
      have N_p5_q6 : Aside0 (p5 ≠ q6) := ⟨by have := HN0.out; omega⟩
      have N_p5_q7 : Aside0 (p5 ≠ q7) := ⟨by have := HN0.out; omega⟩
      have N_q6_q7 : Aside0 (q6 ≠ q7) := ⟨fun e_ => ne67_ (by rw [e_])⟩
      have Bq6 := Aside0.mk c6_
      have Bq7 := Aside0.mk c7_
      clear c6_ c7_ ne67_ g6_ g7_
      clear HN0
      go_wp2
      refine region_ri (n := 34) (B := [0, 1, 3, 7, 15, 0, 32, 0, 128, 0, 512, 0, 2048, 6144, 15872, 0, 32768, 130560, 262016, 0, 524288, 0, 2097152, 0, 8388608, 25165824, 65043968, 0, 134217728, 534806016, 1073249792, 2147483520, 4294967295, 8589934591]) (fun o_ => match o_ with | 0 => some 42 | 1 => some 43 | 2 => some 44 | 3 => some 45 | 4 => some 46 | 5 => some 47 | 6 => some 48 | 7 => some 49 | 8 => some 50 | 9 => some 51 | 10 => some 52 | 11 => some 53 | 12 => some 54 | 13 => some 55 | 14 => some 56 | 15 => some 57 | 16 => some 58 | 17 => some 59 | 18 => some 60 | 19 => some 61 | 20 => some 62 | 21 => some 63 | 22 => some 64 | 23 => some 65 | 24 => some 66 | 25 => some 67 | 26 => some 68 | 27 => some 69 | 28 => some 70 | 29 => some 71 | 30 => some 72 | 31 => some 73 | 32 => some 74 | 33 => none | _ => none) (fun o_ q_ w' => match o_ with | 0 => q_ = .pointer (some ⟨xb, 0, none⟩) | 1 => q_ = .pointer (some ⟨xb, 0, none⟩) | 2 => q_ = .pointer (some ⟨xb, 5, none⟩) | 3 => q_ = .pointer (some ⟨xb, 5, none⟩) | 4 => q_ = .slice (some ⟨fb, 0, none⟩) l0.length cF | 5 => q_ = .pointer (some ⟨p5, 0, none⟩) | 6 => q_ = .int .i64 (rd_T142 l4 i).f0 | 7 => q_ = .pointer (some ⟨q6, 0, none⟩) | 8 => q_ = .int .i64 (rd_T32 F' (rd_T142 l4 i).f0).f0 | 9 => q_ = .pointer (some ⟨q6, 0, none⟩) | 10 => q_ = .int .i64 (rd_T32 F' (rd_T142 l4 i).f0).f0 | 11 => q_ = .pointer (some ⟨p5, 1, none⟩) | 12 => q_ = .pointer (some ⟨p5, 2, none⟩) | 13 => q_ = .int .i64 (rd_T142 l4 i).f1.f1 | 14 => q_ = .int .i64 (up_ ((rd_T32 F' (rd_T142 l4 i).f0).f0) ((rd_T142 l4 i).f1.f1)) | 15 => q_ = .pointer (some ⟨q7, 1, none⟩) | 16 => q_ = .int .i64 (rd_T32 R' i).f1 | 17 => q_ = .int .i64 (mn (up_ ((rd_T32 F' (rd_T142 l4 i).f0).f0) ((rd_T142 l4 i).f1.f1)) (rd_T32 R' i).f1) | 18 => q_ = .int .i64 (wrap64 ((rd_T32 F' (rd_T142 l4 i).f0).f0 - (mn (up_ ((rd_T32 F' (rd_T142 l4 i).f0).f0) ((rd_T142 l4 i).f1.f1)) (rd_T32 R' i).f1))) | 19 => q_ = .pointer (some ⟨q6, 1, none⟩) | 20 => q_ = .int .i64 (rd_T32 F' (rd_T142 l4 i).f0).f1 | 21 => q_ = .pointer (some ⟨q6, 1, none⟩) | 22 => q_ = .int .i64 (rd_T32 F' (rd_T142 l4 i).f0).f1 | 23 => q_ = .pointer (some ⟨p5, 1, none⟩) | 24 => q_ = .pointer (some ⟨p5, 1, none⟩) | 25 => q_ = .int .i64 (rd_T142 l4 i).f1.f0 | 26 => q_ = .int .i64 (down ((rd_T32 F' (rd_T142 l4 i).f0).f1) ((rd_T142 l4 i).f1.f0)) | 27 => q_ = .pointer (some ⟨q7, 0, none⟩) | 28 => q_ = .int .i64 (rd_T32 R' i).f0 | 29 => q_ = .int .i64 (mn (down ((rd_T32 F' (rd_T142 l4 i).f0).f1) ((rd_T142 l4 i).f1.f0)) (rd_T32 R' i).f0) | 30 => q_ = .int .i64 (wrap64 ((rd_T32 F' (rd_T142 l4 i).f0).f1 - (mn (down ((rd_T32 F' (rd_T142 l4 i).f0).f1) ((rd_T142 l4 i).f1.f0)) (rd_T32 R' i).f0))) | 31 => q_ = .agg #[.int .i64 (wrap64 ((rd_T32 F' (rd_T142 l4 i).f0).f0 - (mn (up_ ((rd_T32 F' (rd_T142 l4 i).f0).f0) ((rd_T142 l4 i).f1.f1)) (rd_T32 R' i).f1))), .int .i64 (wrap64 ((rd_T32 F' (rd_T142 l4 i).f0).f1 - (mn (down ((rd_T32 F' (rd_T142 l4 i).f0).f1) ((rd_T142 l4 i).f1.f0)) (rd_T32 R' i).f0)))] | 32 => q_ = .pointer (some ⟨fb, ((rd_T142 l4 i).f0).toNat * 2, none⟩) | _ => True) (fun b w' => if b 33 = true then (Aside0 (Apart xb fb bb rb w w') ∧ Aside0 (w'.heap[xb]? = some (.cells #[.slice A0 l0.length c0, .slice A1 l1.length c1, .slice A2 l2.length c2, .slice A3 l3.length c3, .slice (some ad) l4.length c4, .slice (some ⟨fb, 0, none⟩) l0.length cF, .slice (some ⟨bb, 0, none⟩) l0.length cB, .slice (some ⟨rb, 0, none⟩) l4.length cR, .int .i64 mo, .bool true] 119 (0, 0))) ∧ Aside0 (Row w' fb (.slice (some ⟨fb, 0, none⟩) l0.length cF) (((F').set ((rd_T142 l4 i).f0).toNat ⟨(wrap64 ((rd_T32 F' (rd_T142 l4 i).f0).f0 - (mn (up_ ((rd_T32 F' (rd_T142 l4 i).f0).f0) ((rd_T142 l4 i).f1.f1)) (rd_T32 R' i).f1))), (wrap64 ((rd_T32 F' (rd_T142 l4 i).f0).f1 - (mn (down ((rd_T32 F' (rd_T142 l4 i).f0).f1) ((rd_T142 l4 i).f1.f0)) (rd_T32 R' i).f0)))⟩))) ∧ Aside0 (Row w' bb (.slice (some ⟨bb, 0, none⟩) l0.length cB) (Bd)) ∧ Aside0 (Row w' rb (.slice (some ⟨rb, 0, none⟩) l4.length cR) (R')) ∧ Aside0 (w'.heap[s]? = some (.cells #[.int .i64 tk, .int .i64 he, .slice As sh.length cs, .bool fs] 45 (0, 0))) ∧ Aside0 (w'.heap[p5]? = some (.cells #[.int .i64 (rd_T142 l4 i).f0, .int .i64 (rd_T142 l4 i).f1.f0, .int .i64 (rd_T142 l4 i).f1.f1, .int .i64 (rd_T142 l4 i).f2.f0, .int .i64 (rd_T142 l4 i).f2.f1] 142 (0, 0))) ∧ Aside0 (w'.heap[q6]? = some (.cells #[.int .i64 (rd_T32 F' (rd_T142 l4 i).f0).f0, .int .i64 (rd_T32 F' (rd_T142 l4 i).f0).f1] 32 (0, 0))) ∧ Aside0 (w'.heap[q7]? = some (.cells #[.int .i64 (rd_T32 R' i).f0, .int .i64 (rd_T32 R' i).f1] 32 (0, 0)))) else (Aside0 (Apart xb fb bb rb w w') ∧ Aside0 (w'.heap[xb]? = some (.cells #[.slice A0 l0.length c0, .slice A1 l1.length c1, .slice A2 l2.length c2, .slice A3 l3.length c3, .slice (some ad) l4.length c4, .slice (some ⟨fb, 0, none⟩) l0.length cF, .slice (some ⟨bb, 0, none⟩) l0.length cB, .slice (some ⟨rb, 0, none⟩) l4.length cR, .int .i64 mo, .bool true] 119 (0, 0))) ∧ Aside0 (Row w' fb (.slice (some ⟨fb, 0, none⟩) l0.length cF) (F')) ∧ Aside0 (Row w' bb (.slice (some ⟨bb, 0, none⟩) l0.length cB) (Bd)) ∧ Aside0 (Row w' rb (.slice (some ⟨rb, 0, none⟩) l4.length cR) (R')) ∧ Aside0 (w'.heap[s]? = some (.cells #[.int .i64 tk, .int .i64 he, .slice As sh.length cs, .bool fs] 45 (0, 0))) ∧ Aside0 (w'.heap[p5]? = some (.cells #[.int .i64 (rd_T142 l4 i).f0, .int .i64 (rd_T142 l4 i).f1.f0, .int .i64 (rd_T142 l4 i).f1.f1, .int .i64 (rd_T142 l4 i).f2.f0, .int .i64 (rd_T142 l4 i).f2.f1] 142 (0, 0))) ∧ Aside0 (w'.heap[q6]? = some (.cells #[.int .i64 (rd_T32 F' (rd_T142 l4 i).f0).f0, .int .i64 (rd_T32 F' (rd_T142 l4 i).f0).f1] 32 (0, 0))) ∧ Aside0 (w'.heap[q7]? = some (.cells #[.int .i64 (rd_T32 R' i).f0, .int .i64 (rd_T32 R' i).f1] 32 (0, 0))))) rfl rfl (by kernel_rfl) (by kernel_rfl) (by kernel_rfl) (by show (if false = true then _ else _); rw [if_neg (by decide)]; exact ⟨ap_b (below_drew (Below.refl _ _)) HB, blk_b (below_drew (Below.refl _ _)) Bxb, row_b (below_drew (Below.refl _ _)) Bfb, row_b (below_drew (Below.refl _ _)) Bbb, row_b (below_drew (Below.refl _ _)) Brb, blk_b (below_drew (Below.refl _ _)) Bs, blk_b (below_drew (Below.refl _ _)) Bp5, blk_b (below_drew (Below.refl _ _)) Bq6, blk_b (below_drew (Below.refl _ _)) Bq7⟩) ?_ ?_
      · intro o_ hi
        match o_, hi with
        | 0, _ =>
          intro b a wq hI hbi_ hb_ hoff_
          have e0 : a.eval (.tmp 0) = .pointer (some ⟨xb, 0, none⟩) := hI.old 0 (by decide) rfl
          have s0 := sv_ e0
          have hJ := hI.j
          exact op_keep hI (i := 0) (jk_ hJ (by decide)) (hrun := gs_)
        | 1, _ =>
          intro b a wq hI hbi_ hb_ hoff_
          have e42 := hI.new 42 0 (by decide) (hb_ 0 (by decide)) rfl fun _ h => h
          have s42 := sv_ e42
          have hJ := hI.j
          exact op_keep hI (i := 1) (jk_ hJ (by decide)) (hrun := gs_)
        | 2, _ =>
          intro b a wq hI hbi_ hb_ hoff_
          have e43 := hI.new 43 1 (by decide) (hb_ 1 (by decide)) rfl fun _ h => h
          have s43 := sv_ e43
          have hJ := hI.j
          exact op_keep hI (i := 2) (jk_ hJ (by decide)) (hrun := gs_)
        | 3, _ =>
          intro b a wq hI hbi_ hb_ hoff_
          have e44 := hI.new 44 2 (by decide) (hb_ 2 (by decide)) rfl fun _ h => h
          have s44 := sv_ e44
          have hJ := hI.j
          exact op_keep hI (i := 3) (jk_ hJ (by decide)) (hrun := gs_)
        | 4, _ =>
          intro b a wq hI hbi_ hb_ hoff_
          have e45 := hI.new 45 3 (by decide) (hb_ 3 (by decide)) rfl fun _ h => h
          have s45 := sv_ e45
          have hJ := hI.j
          obtain ⟨HBq, qxb, qfb, qbb, qrb, qs, qp5, qq6, qq7⟩ := j0_ hJ (hoff_ 33 (by decide))
          obtain ⟨cxb_0, cxb_1, cxb_2, cxb_3, cxb_4, cxb_5, cxb_6, cxb_7, cxb_8, cxb_9⟩ := cells10 qxb.out; 
          exact op_keep hI (i := 4) (jk_ hJ (by decide)) (hrun := gs_)
        | 5, _ =>
          intro b a wq hI hbi_ hb_ hoff_
          have e5 : a.eval (.tmp 5) = .pointer (some ⟨p5, 0, none⟩) := hI.old 5 (by decide) rfl
          have s5 := sv_ e5
          have hJ := hI.j
          exact op_keep hI (i := 5) (jk_ hJ (by decide)) (hrun := gs_)
        | 6, _ =>
          intro b a wq hI hbi_ hb_ hoff_
          have e47 := hI.new 47 5 (by decide) (hb_ 5 (by decide)) rfl fun _ h => h
          have s47 := sv_ e47
          have hJ := hI.j
          obtain ⟨HBq, qxb, qfb, qbb, qrb, qs, qp5, qq6, qq7⟩ := j0_ hJ (hoff_ 33 (by decide))
          obtain ⟨cp5_0, cp5_1, cp5_2, cp5_3, cp5_4⟩ := cells5 qp5.out; 
          exact op_keep hI (i := 6) (jk_ hJ (by decide)) (hrun := gs_)
        | 7, _ =>
          intro b a wq hI hbi_ hb_ hoff_
          have e6 : a.eval (.tmp 6) = .pointer (some ⟨q6, 0, none⟩) := hI.old 6 (by decide) rfl
          have s6 := sv_ e6
          have hJ := hI.j
          exact op_keep hI (i := 7) (jk_ hJ (by decide)) (hrun := gs_)
        | 8, _ =>
          intro b a wq hI hbi_ hb_ hoff_
          have e49 := hI.new 49 7 (by decide) (hb_ 7 (by decide)) rfl fun _ h => h
          have s49 := sv_ e49
          have hJ := hI.j
          obtain ⟨HBq, qxb, qfb, qbb, qrb, qs, qp5, qq6, qq7⟩ := j0_ hJ (hoff_ 33 (by decide))
          obtain ⟨cq6_0, cq6_1⟩ := cells2 qq6.out; 
          exact op_keep hI (i := 8) (jk_ hJ (by decide)) (hrun := gs_)
        | 9, _ =>
          intro b a wq hI hbi_ hb_ hoff_
          have e6 : a.eval (.tmp 6) = .pointer (some ⟨q6, 0, none⟩) := hI.old 6 (by decide) rfl
          have s6 := sv_ e6
          have hJ := hI.j
          exact op_keep hI (i := 9) (jk_ hJ (by decide)) (hrun := gs_)
        | 10, _ =>
          intro b a wq hI hbi_ hb_ hoff_
          have e51 := hI.new 51 9 (by decide) (hb_ 9 (by decide)) rfl fun _ h => h
          have s51 := sv_ e51
          have hJ := hI.j
          obtain ⟨HBq, qxb, qfb, qbb, qrb, qs, qp5, qq6, qq7⟩ := j0_ hJ (hoff_ 33 (by decide))
          obtain ⟨cq6_0, cq6_1⟩ := cells2 qq6.out; 
          exact op_keep hI (i := 10) (jk_ hJ (by decide)) (hrun := gs_)
        | 11, _ =>
          intro b a wq hI hbi_ hb_ hoff_
          have e5 : a.eval (.tmp 5) = .pointer (some ⟨p5, 0, none⟩) := hI.old 5 (by decide) rfl
          have s5 := sv_ e5
          have hJ := hI.j
          exact op_keep hI (i := 11) (jk_ hJ (by decide)) (hrun := gs_)
        | 12, _ =>
          intro b a wq hI hbi_ hb_ hoff_
          have e53 := hI.new 53 11 (by decide) (hb_ 11 (by decide)) rfl fun _ h => h
          have s53 := sv_ e53
          have hJ := hI.j
          exact op_keep hI (i := 12) (jk_ hJ (by decide)) (hrun := gs_)
        | 13, _ =>
          intro b a wq hI hbi_ hb_ hoff_
          have e54 := hI.new 54 12 (by decide) (hb_ 12 (by decide)) rfl fun _ h => h
          have s54 := sv_ e54
          have hJ := hI.j
          obtain ⟨HBq, qxb, qfb, qbb, qrb, qs, qp5, qq6, qq7⟩ := j0_ hJ (hoff_ 33 (by decide))
          obtain ⟨cp5_0, cp5_1, cp5_2, cp5_3, cp5_4⟩ := cells5 qp5.out; 
          exact op_keep hI (i := 13) (jk_ hJ (by decide)) (hrun := gs_)
        | 14, _ =>
          intro b a wq hI hbi_ hb_ hoff_
          have e52 := hI.new 52 10 (by decide) (hb_ 10 (by decide)) rfl fun _ h => h
          have s52 := sv_ e52
          have e55 := hI.new 55 13 (by decide) (hb_ 13 (by decide)) rfl fun _ h => h
          have s55 := sv_ e55
          have hJ := hI.j
          obtain ⟨HBq, qxb, qfb, qbb, qrb, qs, qp5, qq6, qq7⟩ := j0_ hJ (hoff_ 33 (by decide))
          refine ⟨_, rfl, rfl, fun K hK => ?_⟩
          refine goes_ Try.func153 (by kernel_rfl) rfl #[.int .i64 (rd_T32 F' (rd_T142 l4 i).f0).f0, .int .i64 (rd_T142 l4 i).f1.f1] rfl rfl rfl (by simp [e52, e55]) ?_
          refine (up_any ((rd_T32 F' (rd_T142 l4 i).f0).f0) ((rd_T142 l4 i).f1.f1) wq).mono ?_
          rintro e w2 ⟨rfl, hb2⟩
          exact ⟨_, rfl, hK _ _ (j0_up (by decide) (hoff_ 33 (by decide)) ⟨ap_b hb2 HBq, blk_b hb2 qxb, row_b hb2 qfb, row_b hb2 qbb, row_b hb2 qrb, blk_b hb2 qs, blk_b hb2 qp5, blk_b hb2 qq6, blk_b hb2 qq7⟩) (fun _ _ h => h) rfl⟩
        | 15, _ =>
          intro b a wq hI hbi_ hb_ hoff_
          have e7 : a.eval (.tmp 7) = .pointer (some ⟨q7, 0, none⟩) := hI.old 7 (by decide) rfl
          have s7 := sv_ e7
          have hJ := hI.j
          exact op_keep hI (i := 15) (jk_ hJ (by decide)) (hrun := gs_)
        | 16, _ =>
          intro b a wq hI hbi_ hb_ hoff_
          have e57 := hI.new 57 15 (by decide) (hb_ 15 (by decide)) rfl fun _ h => h
          have s57 := sv_ e57
          have hJ := hI.j
          obtain ⟨HBq, qxb, qfb, qbb, qrb, qs, qp5, qq6, qq7⟩ := j0_ hJ (hoff_ 33 (by decide))
          obtain ⟨cq7_0, cq7_1⟩ := cells2 qq7.out; 
          exact op_keep hI (i := 16) (jk_ hJ (by decide)) (hrun := gs_)
        | 17, _ =>
          intro b a wq hI hbi_ hb_ hoff_
          have e56 := hI.new 56 14 (by decide) (hb_ 14 (by decide)) rfl fun _ h => h
          have s56 := sv_ e56
          have e58 := hI.new 58 16 (by decide) (hb_ 16 (by decide)) rfl fun _ h => h
          have s58 := sv_ e58
          have hJ := hI.j
          exact op_keep hI (i := 17) (jk_ hJ (by decide)) (hrun := gs_)
        | 18, _ =>
          intro b a wq hI hbi_ hb_ hoff_
          have e50 := hI.new 50 8 (by decide) (hb_ 8 (by decide)) rfl fun _ h => h
          have s50 := sv_ e50
          have e59 := hI.new 59 17 (by decide) (hb_ 17 (by decide)) rfl fun _ h => h
          have s59 := sv_ e59
          have hJ := hI.j
          exact op_keep hI (i := 18) (jk_ hJ (by decide)) (hrun := gs_)
        | 19, _ =>
          intro b a wq hI hbi_ hb_ hoff_
          have e6 : a.eval (.tmp 6) = .pointer (some ⟨q6, 0, none⟩) := hI.old 6 (by decide) rfl
          have s6 := sv_ e6
          have hJ := hI.j
          exact op_keep hI (i := 19) (jk_ hJ (by decide)) (hrun := gs_)
        | 20, _ =>
          intro b a wq hI hbi_ hb_ hoff_
          have e61 := hI.new 61 19 (by decide) (hb_ 19 (by decide)) rfl fun _ h => h
          have s61 := sv_ e61
          have hJ := hI.j
          obtain ⟨HBq, qxb, qfb, qbb, qrb, qs, qp5, qq6, qq7⟩ := j0_ hJ (hoff_ 33 (by decide))
          obtain ⟨cq6_0, cq6_1⟩ := cells2 qq6.out; 
          exact op_keep hI (i := 20) (jk_ hJ (by decide)) (hrun := gs_)
        | 21, _ =>
          intro b a wq hI hbi_ hb_ hoff_
          have e6 : a.eval (.tmp 6) = .pointer (some ⟨q6, 0, none⟩) := hI.old 6 (by decide) rfl
          have s6 := sv_ e6
          have hJ := hI.j
          exact op_keep hI (i := 21) (jk_ hJ (by decide)) (hrun := gs_)
        | 22, _ =>
          intro b a wq hI hbi_ hb_ hoff_
          have e63 := hI.new 63 21 (by decide) (hb_ 21 (by decide)) rfl fun _ h => h
          have s63 := sv_ e63
          have hJ := hI.j
          obtain ⟨HBq, qxb, qfb, qbb, qrb, qs, qp5, qq6, qq7⟩ := j0_ hJ (hoff_ 33 (by decide))
          obtain ⟨cq6_0, cq6_1⟩ := cells2 qq6.out; 
          exact op_keep hI (i := 22) (jk_ hJ (by decide)) (hrun := gs_)
        | 23, _ =>
          intro b a wq hI hbi_ hb_ hoff_
          have e5 : a.eval (.tmp 5) = .pointer (some ⟨p5, 0, none⟩) := hI.old 5 (by decide) rfl
          have s5 := sv_ e5
          have hJ := hI.j
          exact op_keep hI (i := 23) (jk_ hJ (by decide)) (hrun := gs_)
        | 24, _ =>
          intro b a wq hI hbi_ hb_ hoff_
          have e65 := hI.new 65 23 (by decide) (hb_ 23 (by decide)) rfl fun _ h => h
          have s65 := sv_ e65
          have hJ := hI.j
          exact op_keep hI (i := 24) (jk_ hJ (by decide)) (hrun := gs_)
        | 25, _ =>
          intro b a wq hI hbi_ hb_ hoff_
          have e66 := hI.new 66 24 (by decide) (hb_ 24 (by decide)) rfl fun _ h => h
          have s66 := sv_ e66
          have hJ := hI.j
          obtain ⟨HBq, qxb, qfb, qbb, qrb, qs, qp5, qq6, qq7⟩ := j0_ hJ (hoff_ 33 (by decide))
          obtain ⟨cp5_0, cp5_1, cp5_2, cp5_3, cp5_4⟩ := cells5 qp5.out; 
          exact op_keep hI (i := 25) (jk_ hJ (by decide)) (hrun := gs_)
        | 26, _ =>
          intro b a wq hI hbi_ hb_ hoff_
          have e64 := hI.new 64 22 (by decide) (hb_ 22 (by decide)) rfl fun _ h => h
          have s64 := sv_ e64
          have e67 := hI.new 67 25 (by decide) (hb_ 25 (by decide)) rfl fun _ h => h
          have s67 := sv_ e67
          have hJ := hI.j
          obtain ⟨HBq, qxb, qfb, qbb, qrb, qs, qp5, qq6, qq7⟩ := j0_ hJ (hoff_ 33 (by decide))
          refine ⟨_, rfl, rfl, fun K hK => ?_⟩
          refine goes_ Try.func152 (by kernel_rfl) rfl #[.int .i64 (rd_T32 F' (rd_T142 l4 i).f0).f1, .int .i64 (rd_T142 l4 i).f1.f0] rfl rfl rfl (by simp [e64, e67]) ?_
          refine (down_any ((rd_T32 F' (rd_T142 l4 i).f0).f1) ((rd_T142 l4 i).f1.f0) wq).mono ?_
          rintro e w2 ⟨rfl, hb2⟩
          exact ⟨_, rfl, hK _ _ (j0_up (by decide) (hoff_ 33 (by decide)) ⟨ap_b hb2 HBq, blk_b hb2 qxb, row_b hb2 qfb, row_b hb2 qbb, row_b hb2 qrb, blk_b hb2 qs, blk_b hb2 qp5, blk_b hb2 qq6, blk_b hb2 qq7⟩) (fun _ _ h => h) rfl⟩
        | 27, _ =>
          intro b a wq hI hbi_ hb_ hoff_
          have e7 : a.eval (.tmp 7) = .pointer (some ⟨q7, 0, none⟩) := hI.old 7 (by decide) rfl
          have s7 := sv_ e7
          have hJ := hI.j
          exact op_keep hI (i := 27) (jk_ hJ (by decide)) (hrun := gs_)
        | 28, _ =>
          intro b a wq hI hbi_ hb_ hoff_
          have e69 := hI.new 69 27 (by decide) (hb_ 27 (by decide)) rfl fun _ h => h
          have s69 := sv_ e69
          have hJ := hI.j
          obtain ⟨HBq, qxb, qfb, qbb, qrb, qs, qp5, qq6, qq7⟩ := j0_ hJ (hoff_ 33 (by decide))
          obtain ⟨cq7_0, cq7_1⟩ := cells2 qq7.out; 
          exact op_keep hI (i := 28) (jk_ hJ (by decide)) (hrun := gs_)
        | 29, _ =>
          intro b a wq hI hbi_ hb_ hoff_
          have e68 := hI.new 68 26 (by decide) (hb_ 26 (by decide)) rfl fun _ h => h
          have s68 := sv_ e68
          have e70 := hI.new 70 28 (by decide) (hb_ 28 (by decide)) rfl fun _ h => h
          have s70 := sv_ e70
          have hJ := hI.j
          exact op_keep hI (i := 29) (jk_ hJ (by decide)) (hrun := gs_)
        | 30, _ =>
          intro b a wq hI hbi_ hb_ hoff_
          have e62 := hI.new 62 20 (by decide) (hb_ 20 (by decide)) rfl fun _ h => h
          have s62 := sv_ e62
          have e71 := hI.new 71 29 (by decide) (hb_ 29 (by decide)) rfl fun _ h => h
          have s71 := sv_ e71
          have hJ := hI.j
          exact op_keep hI (i := 30) (jk_ hJ (by decide)) (hrun := gs_)
        | 31, _ =>
          intro b a wq hI hbi_ hb_ hoff_
          have e60 := hI.new 60 18 (by decide) (hb_ 18 (by decide)) rfl fun _ h => h
          have s60 := sv_ e60
          have e72 := hI.new 72 30 (by decide) (hb_ 30 (by decide)) rfl fun _ h => h
          have s72 := sv_ e72
          have hJ := hI.j
          exact op_keep hI (i := 31) (jk_ hJ (by decide)) (hrun := gs_)
        | 32, _ =>
          intro b a wq hI hbi_ hb_ hoff_
          have e46 := hI.new 46 4 (by decide) (hb_ 4 (by decide)) rfl fun _ h => h
          have s46 := sv_ e46
          have e48 := hI.new 48 6 (by decide) (hb_ 6 (by decide)) rfl fun _ h => h
          have s48 := sv_ e48
          have hJ := hI.j
          obtain ⟨HBq, qxb, qfb, qbb, qrb, qs, qp5, qq6, qq7⟩ := j0_ hJ (hoff_ 33 (by decide))
          obtain ⟨cxb_0, cxb_1, cxb_2, cxb_3, cxb_4, cxb_5, cxb_6, cxb_7, cxb_8, cxb_9⟩ := cells10 qxb.out; 
          obtain ⟨cs_0, cs_1, cs_2, cs_3⟩ := cells4 qs.out; 
          obtain ⟨cp5_0, cp5_1, cp5_2, cp5_3, cp5_4⟩ := cells5 qp5.out; 
          obtain ⟨cq6_0, cq6_1⟩ := cells2 qq6.out; 
          obtain ⟨cq7_0, cq7_1⟩ := cells2 qq7.out; 
          exact op_keep hI (i := 32) (jk_ hJ (by decide)) (hrun := gs_)
        | 33, _ =>
          intro b a wq hI hbi_ hb_ hoff_
          have e74 := hI.new 74 32 (by decide) (hb_ 32 (by decide)) rfl fun _ h => h
          have s74 := sv_ e74
          have e73 := hI.new 73 31 (by decide) (hb_ 31 (by decide)) rfl fun _ h => h
          have s73 := sv_ e73
          have hJ := hI.j
          obtain ⟨HBq, qxb, qfb, qbb, qrb, qs, qp5, qq6, qq7⟩ := j0_ hJ hbi_
          obtain ⟨cxb_0, cxb_1, cxb_2, cxb_3, cxb_4, cxb_5, cxb_6, cxb_7, cxb_8, cxb_9⟩ := cells10 qxb.out; 
          obtain ⟨cs_0, cs_1, cs_2, cs_3⟩ := cells4 qs.out; 
          obtain ⟨cp5_0, cp5_1, cp5_2, cp5_3, cp5_4⟩ := cells5 qp5.out; 
          obtain ⟨cq6_0, cq6_1⟩ := cells2 qq6.out; 
          obtain ⟨cq7_0, cq7_1⟩ := cells2 qq7.out; 
          refine ⟨_, rfl, rfl, fun K hK => ?_⟩
          obtain ⟨w2, hrun2, hrow2, hg2⟩ := Row.store (P := Try.prog) (by kernel_rfl) qfb.out ((rd_T142 l4 i).f0) (hel.1) (hel.2) ((wrap64 ((rd_T32 F' (rd_T142 l4 i).f0).f0 - (mn (up_ ((rd_T32 F' (rd_T142 l4 i).f0).f0) ((rd_T142 l4 i).f1.f1)) (rd_T32 R' i).f1)))) ((wrap64 ((rd_T32 F' (rd_T142 l4 i).f0).f1 - (mn (down ((rd_T32 F' (rd_T142 l4 i).f0).f1) ((rd_T142 l4 i).f1.f0)) (rd_T32 R' i).f0))))
          refine skip_ rfl rfl (w1 := w2) (by unfold execOp; simp [e74, e73, hrun2]) (hK undef _ (j1_up ⟨ap_g hg2 HBq (Or.inr (Or.inl rfl)), blk_g hg2 qxb (by first | exact N_xb_fb.out | exact N_fb_xb.out.symm), ⟨hrow2⟩, row_g hg2 qbb (by first | exact N_bb_fb.out | exact N_fb_bb.out.symm), row_g hg2 qrb (by first | exact N_rb_fb.out | exact N_fb_rb.out.symm), blk_g hg2 qs (by first | exact N_s_fb.out | exact N_fb_s.out.symm), blk_g hg2 qp5 (by first | exact N_p5_fb.out | exact N_fb_p5.out.symm), blk_g hg2 qq6 (by first | exact N_q6_fb.out | exact N_fb_q6.out.symm), blk_g hg2 qq7 (by first | exact N_q7_fb.out | exact N_fb_q7.out.symm)⟩) (fun _ _ h => h) trivial)
        | o_ + 34, hi => exact absurd hi (by omega)
      intro vs wn b_ hall hJ hT
      replace hJ := j1_ hJ (hall 33 (by decide))
      obtain ⟨HJ0, HT0⟩ : Aside0 _ ∧ Aside0 _ := ⟨⟨hJ⟩, ⟨hT⟩⟩
      clear hall hJ hT
      simp only [fillAll, show List.range 34 = [0, 1, 2, 3, 4, 5, 6, 7, 8, 9, 10, 11, 12, 13, 14, 15, 16, 17, 18, 19, 20, 21, 22, 23, 24, 25, 26, 27, 28, 29, 30, 31, 32, 33] from rfl]
      rw [show vs 0 = _ from HT0.out 0 (by decide) (by decide), show vs 1 = _ from HT0.out 1 (by decide) (by decide), show vs 2 = _ from HT0.out 2 (by decide) (by decide), show vs 3 = _ from HT0.out 3 (by decide) (by decide), show vs 4 = _ from HT0.out 4 (by decide) (by decide), show vs 5 = _ from HT0.out 5 (by decide) (by decide), show vs 6 = _ from HT0.out 6 (by decide) (by decide), show vs 7 = _ from HT0.out 7 (by decide) (by decide), show vs 8 = _ from HT0.out 8 (by decide) (by decide), show vs 9 = _ from HT0.out 9 (by decide) (by decide), show vs 10 = _ from HT0.out 10 (by decide) (by decide), show vs 11 = _ from HT0.out 11 (by decide) (by decide), show vs 12 = _ from HT0.out 12 (by decide) (by decide), show vs 13 = _ from HT0.out 13 (by decide) (by decide), show vs 14 = _ from HT0.out 14 (by decide) (by decide), show vs 15 = _ from HT0.out 15 (by decide) (by decide), show vs 16 = _ from HT0.out 16 (by decide) (by decide), show vs 17 = _ from HT0.out 17 (by decide) (by decide), show vs 18 = _ from HT0.out 18 (by decide) (by decide), show vs 19 = _ from HT0.out 19 (by decide) (by decide), show vs 20 = _ from HT0.out 20 (by decide) (by decide), show vs 21 = _ from HT0.out 21 (by decide) (by decide), show vs 22 = _ from HT0.out 22 (by decide) (by decide), show vs 23 = _ from HT0.out 23 (by decide) (by decide), show vs 24 = _ from HT0.out 24 (by decide) (by decide), show vs 25 = _ from HT0.out 25 (by decide) (by decide), show vs 26 = _ from HT0.out 26 (by decide) (by decide), show vs 27 = _ from HT0.out 27 (by decide) (by decide), show vs 28 = _ from HT0.out 28 (by decide) (by decide), show vs 29 = _ from HT0.out 29 (by decide) (by decide), show vs 30 = _ from HT0.out 30 (by decide) (by decide), show vs 31 = _ from HT0.out 31 (by decide) (by decide), show vs 32 = _ from HT0.out 32 (by decide) (by decide)]
      simp only [Act.put, List.setIfInBounds_toArray, List.set_cons_zero, List.set_cons_succ]
      clear HB Bxb Bfb Bbb Brb Bs Bp5 Bq6 Bq7
      obtain ⟨HB, Bxb, Bfb, Bbb, Brb, Bs, Bp5, Bq6, Bq7⟩ := HJ0.out
      clear HJ0 HT0
      (try clear cxb_0 cxb_1 cxb_2 cxb_3 cxb_4 cxb_5 cxb_6 cxb_7 cxb_8 cxb_9); (try clear cs_0 cs_1 cs_2 cs_3); (try clear cp5_0 cp5_1 cp5_2 cp5_3 cp5_4); (try clear cq6_0 cq6_1); (try clear cq7_0 cq7_1)
      obtain ⟨cxb_0, cxb_1, cxb_2, cxb_3, cxb_4, cxb_5, cxb_6, cxb_7, cxb_8, cxb_9⟩ := cells10 Bxb.out
      go_wp2
      refine region_ri (n := 29) (B := [0, 1, 3, 7, 15, 0, 0, 64, 0, 256, 0, 1024, 3072, 7936, 16320, 32704, 0, 65536, 0, 262144, 0, 1048576, 3145728, 8142592, 16727808, 33505024, 67108800, 134217727, 268435455]) (fun o_ => match o_ with | 0 => some 75 | 1 => some 76 | 2 => some 77 | 3 => some 78 | 4 => some 79 | 5 => some 80 | 6 => some 81 | 7 => some 82 | 8 => some 83 | 9 => some 84 | 10 => some 85 | 11 => some 86 | 12 => some 87 | 13 => some 88 | 14 => some 89 | 15 => some 90 | 16 => some 91 | 17 => some 92 | 18 => some 93 | 19 => some 94 | 20 => some 95 | 21 => some 96 | 22 => some 97 | 23 => some 98 | 24 => some 99 | 25 => some 100 | 26 => some 101 | 27 => some 102 | 28 => none | _ => none) (fun o_ q_ w' => match o_ with | 0 => q_ = .pointer (some ⟨xb, 0, none⟩) | 1 => q_ = .pointer (some ⟨xb, 0, none⟩) | 2 => q_ = .pointer (some ⟨xb, 5, none⟩) | 3 => q_ = .pointer (some ⟨xb, 7, none⟩) | 4 => q_ = .slice (some ⟨rb, 0, none⟩) l4.length cR | 5 => q_ = .int .i64 i | 6 => q_ = .pointer (some ⟨q7, 0, none⟩) | 7 => q_ = .int .i64 (rd_T32 R' i).f0 | 8 => q_ = .pointer (some ⟨q6, 1, none⟩) | 9 => q_ = .int .i64 (rd_T32 F' (rd_T142 l4 i).f0).f1 | 10 => q_ = .pointer (some ⟨p5, 1, none⟩) | 11 => q_ = .pointer (some ⟨p5, 2, none⟩) | 12 => q_ = .int .i64 (rd_T142 l4 i).f1.f1 | 13 => q_ = .int .i64 (up_ ((rd_T32 F' (rd_T142 l4 i).f0).f1) ((rd_T142 l4 i).f1.f1)) | 14 => q_ = .int .i64 (wrap64 ((rd_T32 R' i).f0 - (up_ ((rd_T32 F' (rd_T142 l4 i).f0).f1) ((rd_T142 l4 i).f1.f1)))) | 15 => q_ = .int .i64 (mx 0 (wrap64 ((rd_T32 R' i).f0 - (up_ ((rd_T32 F' (rd_T142 l4 i).f0).f1) ((rd_T142 l4 i).f1.f1))))) | 16 => q_ = .pointer (some ⟨q7, 1, none⟩) | 17 => q_ = .int .i64 (rd_T32 R' i).f1 | 18 => q_ = .pointer (some ⟨q6, 0, none⟩) | 19 => q_ = .int .i64 (rd_T32 F' (rd_T142 l4 i).f0).f0 | 20 => q_ = .pointer (some ⟨p5, 1, none⟩) | 21 => q_ = .pointer (some ⟨p5, 1, none⟩) | 22 => q_ = .int .i64 (rd_T142 l4 i).f1.f0 | 23 => q_ = .int .i64 (down ((rd_T32 F' (rd_T142 l4 i).f0).f0) ((rd_T142 l4 i).f1.f0)) | 24 => q_ = .int .i64 (wrap64 ((rd_T32 R' i).f1 - (down ((rd_T32 F' (rd_T142 l4 i).f0).f0) ((rd_T142 l4 i).f1.f0)))) | 25 => q_ = .int .i64 (mx 0 (wrap64 ((rd_T32 R' i).f1 - (down ((rd_T32 F' (rd_T142 l4 i).f0).f0) ((rd_T142 l4 i).f1.f0))))) | 26 => q_ = .agg #[.int .i64 (mx 0 (wrap64 ((rd_T32 R' i).f0 - (up_ ((rd_T32 F' (rd_T142 l4 i).f0).f1) ((rd_T142 l4 i).f1.f1))))), .int .i64 (mx 0 (wrap64 ((rd_T32 R' i).f1 - (down ((rd_T32 F' (rd_T142 l4 i).f0).f0) ((rd_T142 l4 i).f1.f0)))))] | 27 => q_ = .pointer (some ⟨rb, i.toNat * 2, none⟩) | _ => True) (fun b w' => if b 28 = true then (Aside0 (Apart xb fb bb rb w w') ∧ Aside0 (w'.heap[xb]? = some (.cells #[.slice A0 l0.length c0, .slice A1 l1.length c1, .slice A2 l2.length c2, .slice A3 l3.length c3, .slice (some ad) l4.length c4, .slice (some ⟨fb, 0, none⟩) l0.length cF, .slice (some ⟨bb, 0, none⟩) l0.length cB, .slice (some ⟨rb, 0, none⟩) l4.length cR, .int .i64 mo, .bool true] 119 (0, 0))) ∧ Aside0 (Row w' fb (.slice (some ⟨fb, 0, none⟩) l0.length cF) (((F').set ((rd_T142 l4 i).f0).toNat ⟨(wrap64 ((rd_T32 F' (rd_T142 l4 i).f0).f0 - (mn (up_ ((rd_T32 F' (rd_T142 l4 i).f0).f0) ((rd_T142 l4 i).f1.f1)) (rd_T32 R' i).f1))), (wrap64 ((rd_T32 F' (rd_T142 l4 i).f0).f1 - (mn (down ((rd_T32 F' (rd_T142 l4 i).f0).f1) ((rd_T142 l4 i).f1.f0)) (rd_T32 R' i).f0)))⟩))) ∧ Aside0 (Row w' bb (.slice (some ⟨bb, 0, none⟩) l0.length cB) (Bd)) ∧ Aside0 (Row w' rb (.slice (some ⟨rb, 0, none⟩) l4.length cR) (((R').set i.toNat ⟨(mx 0 (wrap64 ((rd_T32 R' i).f0 - (up_ ((rd_T32 F' (rd_T142 l4 i).f0).f1) ((rd_T142 l4 i).f1.f1))))), (mx 0 (wrap64 ((rd_T32 R' i).f1 - (down ((rd_T32 F' (rd_T142 l4 i).f0).f0) ((rd_T142 l4 i).f1.f0)))))⟩))) ∧ Aside0 (w'.heap[s]? = some (.cells #[.int .i64 tk, .int .i64 he, .slice As sh.length cs, .bool fs] 45 (0, 0)))) else (Aside0 (Apart xb fb bb rb w w') ∧ Aside0 (w'.heap[xb]? = some (.cells #[.slice A0 l0.length c0, .slice A1 l1.length c1, .slice A2 l2.length c2, .slice A3 l3.length c3, .slice (some ad) l4.length c4, .slice (some ⟨fb, 0, none⟩) l0.length cF, .slice (some ⟨bb, 0, none⟩) l0.length cB, .slice (some ⟨rb, 0, none⟩) l4.length cR, .int .i64 mo, .bool true] 119 (0, 0))) ∧ Aside0 (Row w' fb (.slice (some ⟨fb, 0, none⟩) l0.length cF) (((F').set ((rd_T142 l4 i).f0).toNat ⟨(wrap64 ((rd_T32 F' (rd_T142 l4 i).f0).f0 - (mn (up_ ((rd_T32 F' (rd_T142 l4 i).f0).f0) ((rd_T142 l4 i).f1.f1)) (rd_T32 R' i).f1))), (wrap64 ((rd_T32 F' (rd_T142 l4 i).f0).f1 - (mn (down ((rd_T32 F' (rd_T142 l4 i).f0).f1) ((rd_T142 l4 i).f1.f0)) (rd_T32 R' i).f0)))⟩))) ∧ Aside0 (Row w' bb (.slice (some ⟨bb, 0, none⟩) l0.length cB) (Bd)) ∧ Aside0 (Row w' rb (.slice (some ⟨rb, 0, none⟩) l4.length cR) (R')) ∧ Aside0 (w'.heap[s]? = some (.cells #[.int .i64 tk, .int .i64 he, .slice As sh.length cs, .bool fs] 45 (0, 0))) ∧ Aside0 (w'.heap[p5]? = some (.cells #[.int .i64 (rd_T142 l4 i).f0, .int .i64 (rd_T142 l4 i).f1.f0, .int .i64 (rd_T142 l4 i).f1.f1, .int .i64 (rd_T142 l4 i).f2.f0, .int .i64 (rd_T142 l4 i).f2.f1] 142 (0, 0))) ∧ Aside0 (w'.heap[q6]? = some (.cells #[.int .i64 (rd_T32 F' (rd_T142 l4 i).f0).f0, .int .i64 (rd_T32 F' (rd_T142 l4 i).f0).f1] 32 (0, 0))) ∧ Aside0 (w'.heap[q7]? = some (.cells #[.int .i64 (rd_T32 R' i).f0, .int .i64 (rd_T32 R' i).f1] 32 (0, 0))))) rfl rfl (by kernel_rfl) (by kernel_rfl) (by kernel_rfl) (by show (if false = true then _ else _); rw [if_neg (by decide)]; exact ⟨ap_b (below_drew (Below.refl _ _)) HB, blk_b (below_drew (Below.refl _ _)) Bxb, row_b (below_drew (Below.refl _ _)) Bfb, row_b (below_drew (Below.refl _ _)) Bbb, row_b (below_drew (Below.refl _ _)) Brb, blk_b (below_drew (Below.refl _ _)) Bs, blk_b (below_drew (Below.refl _ _)) Bp5, blk_b (below_drew (Below.refl _ _)) Bq6, blk_b (below_drew (Below.refl _ _)) Bq7⟩) ?_ ?_
      · intro o_ hi
        match o_, hi with
        | 0, _ =>
          intro b a wq hI hbi_ hb_ hoff_
          have e0 : a.eval (.tmp 0) = .pointer (some ⟨xb, 0, none⟩) := hI.old 0 (by decide) rfl
          have s0 := sv_ e0
          have hJ := hI.j
          exact op_keep hI (i := 0) (jk_ hJ (by decide)) (hrun := gs_)
        | 1, _ =>
          intro b a wq hI hbi_ hb_ hoff_
          have e75 := hI.new 75 0 (by decide) (hb_ 0 (by decide)) rfl fun _ h => h
          have s75 := sv_ e75
          have hJ := hI.j
          exact op_keep hI (i := 1) (jk_ hJ (by decide)) (hrun := gs_)
        | 2, _ =>
          intro b a wq hI hbi_ hb_ hoff_
          have e76 := hI.new 76 1 (by decide) (hb_ 1 (by decide)) rfl fun _ h => h
          have s76 := sv_ e76
          have hJ := hI.j
          exact op_keep hI (i := 2) (jk_ hJ (by decide)) (hrun := gs_)
        | 3, _ =>
          intro b a wq hI hbi_ hb_ hoff_
          have e77 := hI.new 77 2 (by decide) (hb_ 2 (by decide)) rfl fun _ h => h
          have s77 := sv_ e77
          have hJ := hI.j
          exact op_keep hI (i := 3) (jk_ hJ (by decide)) (hrun := gs_)
        | 4, _ =>
          intro b a wq hI hbi_ hb_ hoff_
          have e78 := hI.new 78 3 (by decide) (hb_ 3 (by decide)) rfl fun _ h => h
          have s78 := sv_ e78
          have hJ := hI.j
          obtain ⟨HBq, qxb, qfb, qbb, qrb, qs, qp5, qq6, qq7⟩ := j0_ hJ (hoff_ 28 (by decide))
          obtain ⟨cxb_0, cxb_1, cxb_2, cxb_3, cxb_4, cxb_5, cxb_6, cxb_7, cxb_8, cxb_9⟩ := cells10 qxb.out; 
          exact op_keep hI (i := 4) (jk_ hJ (by decide)) (hrun := gs_)
        | 5, _ =>
          intro b a wq hI hbi_ hb_ hoff_
          have e4 : a.eval (.tmp 4) = .int .i64 i := hI.old 4 (by decide) rfl
          have s4 := sv_ e4
          have hJ := hI.j
          exact op_keep hI (i := 5) (jk_ hJ (by decide)) (hrun := gs_)
        | 6, _ =>
          intro b a wq hI hbi_ hb_ hoff_
          have e7 : a.eval (.tmp 7) = .pointer (some ⟨q7, 0, none⟩) := hI.old 7 (by decide) rfl
          have s7 := sv_ e7
          have hJ := hI.j
          exact op_keep hI (i := 6) (jk_ hJ (by decide)) (hrun := gs_)
        | 7, _ =>
          intro b a wq hI hbi_ hb_ hoff_
          have e81 := hI.new 81 6 (by decide) (hb_ 6 (by decide)) rfl fun _ h => h
          have s81 := sv_ e81
          have hJ := hI.j
          obtain ⟨HBq, qxb, qfb, qbb, qrb, qs, qp5, qq6, qq7⟩ := j0_ hJ (hoff_ 28 (by decide))
          obtain ⟨cq7_0, cq7_1⟩ := cells2 qq7.out; 
          exact op_keep hI (i := 7) (jk_ hJ (by decide)) (hrun := gs_)
        | 8, _ =>
          intro b a wq hI hbi_ hb_ hoff_
          have e6 : a.eval (.tmp 6) = .pointer (some ⟨q6, 0, none⟩) := hI.old 6 (by decide) rfl
          have s6 := sv_ e6
          have hJ := hI.j
          exact op_keep hI (i := 8) (jk_ hJ (by decide)) (hrun := gs_)
        | 9, _ =>
          intro b a wq hI hbi_ hb_ hoff_
          have e83 := hI.new 83 8 (by decide) (hb_ 8 (by decide)) rfl fun _ h => h
          have s83 := sv_ e83
          have hJ := hI.j
          obtain ⟨HBq, qxb, qfb, qbb, qrb, qs, qp5, qq6, qq7⟩ := j0_ hJ (hoff_ 28 (by decide))
          obtain ⟨cq6_0, cq6_1⟩ := cells2 qq6.out; 
          exact op_keep hI (i := 9) (jk_ hJ (by decide)) (hrun := gs_)
        | 10, _ =>
          intro b a wq hI hbi_ hb_ hoff_
          have e5 : a.eval (.tmp 5) = .pointer (some ⟨p5, 0, none⟩) := hI.old 5 (by decide) rfl
          have s5 := sv_ e5
          have hJ := hI.j
          exact op_keep hI (i := 10) (jk_ hJ (by decide)) (hrun := gs_)
        | 11, _ =>
          intro b a wq hI hbi_ hb_ hoff_
          have e85 := hI.new 85 10 (by decide) (hb_ 10 (by decide)) rfl fun _ h => h
          have s85 := sv_ e85
          have hJ := hI.j
          exact op_keep hI (i := 11) (jk_ hJ (by decide)) (hrun := gs_)
        | 12, _ =>
          intro b a wq hI hbi_ hb_ hoff_
          have e86 := hI.new 86 11 (by decide) (hb_ 11 (by decide)) rfl fun _ h => h
          have s86 := sv_ e86
          have hJ := hI.j
          obtain ⟨HBq, qxb, qfb, qbb, qrb, qs, qp5, qq6, qq7⟩ := j0_ hJ (hoff_ 28 (by decide))
          obtain ⟨cp5_0, cp5_1, cp5_2, cp5_3, cp5_4⟩ := cells5 qp5.out; 
          exact op_keep hI (i := 12) (jk_ hJ (by decide)) (hrun := gs_)
        | 13, _ =>
          intro b a wq hI hbi_ hb_ hoff_
          have e84 := hI.new 84 9 (by decide) (hb_ 9 (by decide)) rfl fun _ h => h
          have s84 := sv_ e84
          have e87 := hI.new 87 12 (by decide) (hb_ 12 (by decide)) rfl fun _ h => h
          have s87 := sv_ e87
          have hJ := hI.j
          obtain ⟨HBq, qxb, qfb, qbb, qrb, qs, qp5, qq6, qq7⟩ := j0_ hJ (hoff_ 28 (by decide))
          refine ⟨_, rfl, rfl, fun K hK => ?_⟩
          refine goes_ Try.func153 (by kernel_rfl) rfl #[.int .i64 (rd_T32 F' (rd_T142 l4 i).f0).f1, .int .i64 (rd_T142 l4 i).f1.f1] rfl rfl rfl (by simp [e84, e87]) ?_
          refine (up_any ((rd_T32 F' (rd_T142 l4 i).f0).f1) ((rd_T142 l4 i).f1.f1) wq).mono ?_
          rintro e w2 ⟨rfl, hb2⟩
          exact ⟨_, rfl, hK _ _ (j0_up (by decide) (hoff_ 28 (by decide)) ⟨ap_b hb2 HBq, blk_b hb2 qxb, row_b hb2 qfb, row_b hb2 qbb, row_b hb2 qrb, blk_b hb2 qs, blk_b hb2 qp5, blk_b hb2 qq6, blk_b hb2 qq7⟩) (fun _ _ h => h) rfl⟩
        | 14, _ =>
          intro b a wq hI hbi_ hb_ hoff_
          have e82 := hI.new 82 7 (by decide) (hb_ 7 (by decide)) rfl fun _ h => h
          have s82 := sv_ e82
          have e88 := hI.new 88 13 (by decide) (hb_ 13 (by decide)) rfl fun _ h => h
          have s88 := sv_ e88
          have hJ := hI.j
          exact op_keep hI (i := 14) (jk_ hJ (by decide)) (hrun := gs_)
        | 15, _ =>
          intro b a wq hI hbi_ hb_ hoff_
          have e89 := hI.new 89 14 (by decide) (hb_ 14 (by decide)) rfl fun _ h => h
          have s89 := sv_ e89
          have hJ := hI.j
          exact op_keep hI (i := 15) (jk_ hJ (by decide)) (hrun := gs_)
        | 16, _ =>
          intro b a wq hI hbi_ hb_ hoff_
          have e7 : a.eval (.tmp 7) = .pointer (some ⟨q7, 0, none⟩) := hI.old 7 (by decide) rfl
          have s7 := sv_ e7
          have hJ := hI.j
          exact op_keep hI (i := 16) (jk_ hJ (by decide)) (hrun := gs_)
        | 17, _ =>
          intro b a wq hI hbi_ hb_ hoff_
          have e91 := hI.new 91 16 (by decide) (hb_ 16 (by decide)) rfl fun _ h => h
          have s91 := sv_ e91
          have hJ := hI.j
          obtain ⟨HBq, qxb, qfb, qbb, qrb, qs, qp5, qq6, qq7⟩ := j0_ hJ (hoff_ 28 (by decide))
          obtain ⟨cq7_0, cq7_1⟩ := cells2 qq7.out; 
          exact op_keep hI (i := 17) (jk_ hJ (by decide)) (hrun := gs_)
        | 18, _ =>
          intro b a wq hI hbi_ hb_ hoff_
          have e6 : a.eval (.tmp 6) = .pointer (some ⟨q6, 0, none⟩) := hI.old 6 (by decide) rfl
          have s6 := sv_ e6
          have hJ := hI.j
          exact op_keep hI (i := 18) (jk_ hJ (by decide)) (hrun := gs_)
        | 19, _ =>
          intro b a wq hI hbi_ hb_ hoff_
          have e93 := hI.new 93 18 (by decide) (hb_ 18 (by decide)) rfl fun _ h => h
          have s93 := sv_ e93
          have hJ := hI.j
          obtain ⟨HBq, qxb, qfb, qbb, qrb, qs, qp5, qq6, qq7⟩ := j0_ hJ (hoff_ 28 (by decide))
          obtain ⟨cq6_0, cq6_1⟩ := cells2 qq6.out; 
          exact op_keep hI (i := 19) (jk_ hJ (by decide)) (hrun := gs_)
        | 20, _ =>
          intro b a wq hI hbi_ hb_ hoff_
          have e5 : a.eval (.tmp 5) = .pointer (some ⟨p5, 0, none⟩) := hI.old 5 (by decide) rfl
          have s5 := sv_ e5
          have hJ := hI.j
          exact op_keep hI (i := 20) (jk_ hJ (by decide)) (hrun := gs_)
        | 21, _ =>
          intro b a wq hI hbi_ hb_ hoff_
          have e95 := hI.new 95 20 (by decide) (hb_ 20 (by decide)) rfl fun _ h => h
          have s95 := sv_ e95
          have hJ := hI.j
          exact op_keep hI (i := 21) (jk_ hJ (by decide)) (hrun := gs_)
        | 22, _ =>
          intro b a wq hI hbi_ hb_ hoff_
          have e96 := hI.new 96 21 (by decide) (hb_ 21 (by decide)) rfl fun _ h => h
          have s96 := sv_ e96
          have hJ := hI.j
          obtain ⟨HBq, qxb, qfb, qbb, qrb, qs, qp5, qq6, qq7⟩ := j0_ hJ (hoff_ 28 (by decide))
          obtain ⟨cp5_0, cp5_1, cp5_2, cp5_3, cp5_4⟩ := cells5 qp5.out; 
          exact op_keep hI (i := 22) (jk_ hJ (by decide)) (hrun := gs_)
        | 23, _ =>
          intro b a wq hI hbi_ hb_ hoff_
          have e94 := hI.new 94 19 (by decide) (hb_ 19 (by decide)) rfl fun _ h => h
          have s94 := sv_ e94
          have e97 := hI.new 97 22 (by decide) (hb_ 22 (by decide)) rfl fun _ h => h
          have s97 := sv_ e97
          have hJ := hI.j
          obtain ⟨HBq, qxb, qfb, qbb, qrb, qs, qp5, qq6, qq7⟩ := j0_ hJ (hoff_ 28 (by decide))
          refine ⟨_, rfl, rfl, fun K hK => ?_⟩
          refine goes_ Try.func152 (by kernel_rfl) rfl #[.int .i64 (rd_T32 F' (rd_T142 l4 i).f0).f0, .int .i64 (rd_T142 l4 i).f1.f0] rfl rfl rfl (by simp [e94, e97]) ?_
          refine (down_any ((rd_T32 F' (rd_T142 l4 i).f0).f0) ((rd_T142 l4 i).f1.f0) wq).mono ?_
          rintro e w2 ⟨rfl, hb2⟩
          exact ⟨_, rfl, hK _ _ (j0_up (by decide) (hoff_ 28 (by decide)) ⟨ap_b hb2 HBq, blk_b hb2 qxb, row_b hb2 qfb, row_b hb2 qbb, row_b hb2 qrb, blk_b hb2 qs, blk_b hb2 qp5, blk_b hb2 qq6, blk_b hb2 qq7⟩) (fun _ _ h => h) rfl⟩
        | 24, _ =>
          intro b a wq hI hbi_ hb_ hoff_
          have e92 := hI.new 92 17 (by decide) (hb_ 17 (by decide)) rfl fun _ h => h
          have s92 := sv_ e92
          have e98 := hI.new 98 23 (by decide) (hb_ 23 (by decide)) rfl fun _ h => h
          have s98 := sv_ e98
          have hJ := hI.j
          exact op_keep hI (i := 24) (jk_ hJ (by decide)) (hrun := gs_)
        | 25, _ =>
          intro b a wq hI hbi_ hb_ hoff_
          have e99 := hI.new 99 24 (by decide) (hb_ 24 (by decide)) rfl fun _ h => h
          have s99 := sv_ e99
          have hJ := hI.j
          exact op_keep hI (i := 25) (jk_ hJ (by decide)) (hrun := gs_)
        | 26, _ =>
          intro b a wq hI hbi_ hb_ hoff_
          have e90 := hI.new 90 15 (by decide) (hb_ 15 (by decide)) rfl fun _ h => h
          have s90 := sv_ e90
          have e100 := hI.new 100 25 (by decide) (hb_ 25 (by decide)) rfl fun _ h => h
          have s100 := sv_ e100
          have hJ := hI.j
          exact op_keep hI (i := 26) (jk_ hJ (by decide)) (hrun := gs_)
        | 27, _ =>
          intro b a wq hI hbi_ hb_ hoff_
          have e79 := hI.new 79 4 (by decide) (hb_ 4 (by decide)) rfl fun _ h => h
          have s79 := sv_ e79
          have e80 := hI.new 80 5 (by decide) (hb_ 5 (by decide)) rfl fun _ h => h
          have s80 := sv_ e80
          have hJ := hI.j
          obtain ⟨HBq, qxb, qfb, qbb, qrb, qs, qp5, qq6, qq7⟩ := j0_ hJ (hoff_ 28 (by decide))
          obtain ⟨cxb_0, cxb_1, cxb_2, cxb_3, cxb_4, cxb_5, cxb_6, cxb_7, cxb_8, cxb_9⟩ := cells10 qxb.out; 
          obtain ⟨cs_0, cs_1, cs_2, cs_3⟩ := cells4 qs.out; 
          obtain ⟨cp5_0, cp5_1, cp5_2, cp5_3, cp5_4⟩ := cells5 qp5.out; 
          obtain ⟨cq6_0, cq6_1⟩ := cells2 qq6.out; 
          obtain ⟨cq7_0, cq7_1⟩ := cells2 qq7.out; 
          exact op_keep hI (i := 27) (jk_ hJ (by decide)) (hrun := gs_)
        | 28, _ =>
          intro b a wq hI hbi_ hb_ hoff_
          have e102 := hI.new 102 27 (by decide) (hb_ 27 (by decide)) rfl fun _ h => h
          have s102 := sv_ e102
          have e101 := hI.new 101 26 (by decide) (hb_ 26 (by decide)) rfl fun _ h => h
          have s101 := sv_ e101
          have hJ := hI.j
          obtain ⟨HBq, qxb, qfb, qbb, qrb, qs, qp5, qq6, qq7⟩ := j0_ hJ hbi_
          obtain ⟨cxb_0, cxb_1, cxb_2, cxb_3, cxb_4, cxb_5, cxb_6, cxb_7, cxb_8, cxb_9⟩ := cells10 qxb.out; 
          obtain ⟨cs_0, cs_1, cs_2, cs_3⟩ := cells4 qs.out; 
          obtain ⟨cp5_0, cp5_1, cp5_2, cp5_3, cp5_4⟩ := cells5 qp5.out; 
          obtain ⟨cq6_0, cq6_1⟩ := cells2 qq6.out; 
          obtain ⟨cq7_0, cq7_1⟩ := cells2 qq7.out; 
          refine ⟨_, rfl, rfl, fun K hK => ?_⟩
          obtain ⟨w2, hrun2, hrow2, hg2⟩ := Row.store (P := Try.prog) (by kernel_rfl) qrb.out (i) (hi0) (hi') ((mx 0 (wrap64 ((rd_T32 R' i).f0 - (up_ ((rd_T32 F' (rd_T142 l4 i).f0).f1) ((rd_T142 l4 i).f1.f1)))))) ((mx 0 (wrap64 ((rd_T32 R' i).f1 - (down ((rd_T32 F' (rd_T142 l4 i).f0).f0) ((rd_T142 l4 i).f1.f0))))))
          refine skip_ rfl rfl (w1 := w2) (by unfold execOp; simp [e102, e101, hrun2]) (hK undef _ (j1_up ⟨ap_g hg2 HBq (Or.inr (Or.inr (Or.inr (Or.inl rfl)))), blk_g hg2 qxb (by first | exact N_xb_rb.out | exact N_rb_xb.out.symm), row_g hg2 qfb (by first | exact N_fb_rb.out | exact N_rb_fb.out.symm), row_g hg2 qbb (by first | exact N_bb_rb.out | exact N_rb_bb.out.symm), ⟨hrow2⟩, blk_g hg2 qs (by first | exact N_s_rb.out | exact N_rb_s.out.symm)⟩) (fun _ _ h => h) trivial)
        | o_ + 29, hi => exact absurd hi (by omega)
      intro vs wm b_ hall hJ hT
      replace hJ := j1_ hJ (hall 28 (by decide))
      obtain ⟨HJ0, HT0⟩ : Aside0 _ ∧ Aside0 _ := ⟨⟨hJ⟩, ⟨hT⟩⟩
      clear hall hJ hT
      simp only [fillAll, show List.range 29 = [0, 1, 2, 3, 4, 5, 6, 7, 8, 9, 10, 11, 12, 13, 14, 15, 16, 17, 18, 19, 20, 21, 22, 23, 24, 25, 26, 27, 28] from rfl]
      rw [show vs 0 = _ from HT0.out 0 (by decide) (by decide), show vs 1 = _ from HT0.out 1 (by decide) (by decide), show vs 2 = _ from HT0.out 2 (by decide) (by decide), show vs 3 = _ from HT0.out 3 (by decide) (by decide), show vs 4 = _ from HT0.out 4 (by decide) (by decide), show vs 5 = _ from HT0.out 5 (by decide) (by decide), show vs 6 = _ from HT0.out 6 (by decide) (by decide), show vs 7 = _ from HT0.out 7 (by decide) (by decide), show vs 8 = _ from HT0.out 8 (by decide) (by decide), show vs 9 = _ from HT0.out 9 (by decide) (by decide), show vs 10 = _ from HT0.out 10 (by decide) (by decide), show vs 11 = _ from HT0.out 11 (by decide) (by decide), show vs 12 = _ from HT0.out 12 (by decide) (by decide), show vs 13 = _ from HT0.out 13 (by decide) (by decide), show vs 14 = _ from HT0.out 14 (by decide) (by decide), show vs 15 = _ from HT0.out 15 (by decide) (by decide), show vs 16 = _ from HT0.out 16 (by decide) (by decide), show vs 17 = _ from HT0.out 17 (by decide) (by decide), show vs 18 = _ from HT0.out 18 (by decide) (by decide), show vs 19 = _ from HT0.out 19 (by decide) (by decide), show vs 20 = _ from HT0.out 20 (by decide) (by decide), show vs 21 = _ from HT0.out 21 (by decide) (by decide), show vs 22 = _ from HT0.out 22 (by decide) (by decide), show vs 23 = _ from HT0.out 23 (by decide) (by decide), show vs 24 = _ from HT0.out 24 (by decide) (by decide), show vs 25 = _ from HT0.out 25 (by decide) (by decide), show vs 26 = _ from HT0.out 26 (by decide) (by decide), show vs 27 = _ from HT0.out 27 (by decide) (by decide)]
      simp only [Act.put, List.setIfInBounds_toArray, List.set_cons_zero, List.set_cons_succ]
      clear HB Bxb Bfb Bbb Brb Bs Bp5 Bq6 Bq7
      obtain ⟨HB, Bxb, Bfb, Bbb, Brb, Bs⟩ := HJ0.out
      clear HJ0 HT0
      (try clear cxb_0 cxb_1 cxb_2 cxb_3 cxb_4 cxb_5 cxb_6 cxb_7 cxb_8 cxb_9); (try clear cs_0 cs_1 cs_2 cs_3); (try clear cp5_0 cp5_1 cp5_2 cp5_3 cp5_4); (try clear cq6_0 cq6_1); (try clear cq7_0 cq7_1)
      go_wp2
      go_roundg (l4.length - (i + 1).toNat)
      case measure => have := Hn.out; omega
      case rel => exact ⟨i + 1, _, _, by omega, rfl, by omega, rfl, ⟨by rw [HE.out, HD.out, getS]⟩, HB, Bxb, Bfb, Bbb, Brb, Bs⟩
    · have HE1 : Aside0 (getS l4 0 F Rm = (F', R')) := ⟨by rw [HE.out, List.drop_eq_nil_of_le (by omega)]; rfl⟩
      go_wp2
      go_end0
      exact ⟨⟨_, rfl⟩, (ap_r HB), ⟨Bxb.out, by rw [HE1.out]; exact Bfb.out, Bbb.out, by rw [HE1.out]; exact Brb.out⟩⟩
set_option maxHeartbeats 8000000 in
set_option maxRecDepth 100000 in
theorem get_any (hE : Env w0 w xb fb bb rb A0 A1 A2 A3 A4 c0 c1 c2 c3 c4 l0 l1 l2 l3 l4) (hS : Sys xb fb bb rb A0 A1 A2 A3 A4 c0 c1 c2 c3 c4 cF cB vR l0 l1 l2 l3 l4 F Bd Rm mo fl w) (hgt : ∀ x ∈ l4, 0 ≤ x.f0 ∧ x.f0 < (l0.length : Int)) (hvR : 0 < l4.length → ∃ cR, vR = .slice (some ⟨rb, 0, none⟩) l4.length cR) :
    Calls Try.prog 144 #[.pointer (some ⟨xb, 0, none⟩), .agg #[.int .i64 tk, .int .i64 he, .slice As sh.length cs, .bool fs]] w fun e w' => (∃ v, e = .returned v) ∧ Apart xb fb bb rb w w' ∧ Sys xb fb bb rb A0 A1 A2 A3 A4 c0 c1 c2 c3 c4 cF cB vR l0 l1 l2 l3 l4 (if fl = true then (getS l4 0 F Rm).1 else F) Bd (if fl = true then (getS l4 0 F Rm).2 else Rm) mo fl w' := by
  cases fl
  · have hf : ∀ {α : Type} (x y : α), (if false = true then x else y) = y := fun _ _ => if_neg (by decide)
    rw [hf, hf]
    obtain ⟨H0, hs1, hs2, hs3, hs4, hl1, hl2, hl3, hl4, n1, n2, n3, n4, n5, n6, hr0, hr1, hr2, hr3, hr4, hc0, hc1, hc2, hc3, hc4, hm0⟩ := hE
    have HX : Aside0 (xb < w.heap.size ∧ fb < w.heap.size ∧ bb < w.heap.size ∧ rb < w.heap.size) := ⟨hl1, hl2, hl3, hl4⟩
    have HG : Aside0 (w0.heap.size ≤ xb ∧ w0.heap.size ≤ fb ∧ w0.heap.size ≤ bb ∧ w0.heap.size ≤ rb ∧ w0.heap.size ≤ w.heap.size) := ⟨hs1, hs2, hs3, hs4, H0.size⟩
    have HW0 := Aside0.mk H0
    clear hl1 hl2 hl3 hl4 hs1 hs2 hs3 hs4 H0
    have N_xb_fb := Aside0.mk n1
    have N_xb_bb := Aside0.mk n2
    have N_xb_rb := Aside0.mk n3
    have N_fb_bb := Aside0.mk n4
    have N_fb_rb := Aside0.mk n5
    have N_bb_rb := Aside0.mk n6
    have HR0 := Aside0.mk hr0
    have HR1 := Aside0.mk hr1
    have HR2 := Aside0.mk hr2
    have HR3 := Aside0.mk hr3
    have HR4 := Aside0.mk hr4
    have HC0 := Aside0.mk hc0
    have HC1 := Aside0.mk hc1
    have HC2 := Aside0.mk hc2
    have HC3 := Aside0.mk hc3
    have HC4 := Aside0.mk hc4
    have HM := Aside0.mk hm0
    clear n1 n2 n3 n4 n5 n6 hr0 hr1 hr2 hr3 hr4 hc0 hc1 hc2 hc3 hc4 hm0
    have HB : Aside0 (Apart xb fb bb rb w w) := ⟨Apart.refl w⟩
    obtain ⟨hb1, hb2, hb3, hb4⟩ := hS
    have Bxb := Aside0.mk hb1
    have Bfb := Aside0.mk hb2
    have Bbb := Aside0.mk hb3
    have Brb := Aside0.mk hb4
    clear hb1 hb2 hb3 hb4
    obtain ⟨cxb_0, cxb_1, cxb_2, cxb_3, cxb_4, cxb_5, cxb_6, cxb_7, cxb_8, cxb_9⟩ := cells10 Bxb.out
    go_enter Try.func144, Try.ntmps144
    go_wp2_with (first | ((with_reducible refine gate_dst (N := 3) rfl ?_); go_must (refine box_ev (N := 3) (cs := #[.int .i64 tk, .int .i64 he, .slice As sh.length cs, .bool fs]) (t := 45) (h := ?_); intro s hgs w1 hbox hb; have GEs := ge_newx HB hgs; have N_xb_s := ne_newx HX.out.1 HB hgs; have N_fb_s := ne_newx HX.out.2.1 HB hgs; have N_bb_s := ne_newx HX.out.2.2.1 HB hgs; have N_rb_s := ne_newx HX.out.2.2.2 HB hgs; replace HB := ap_b hb HB; replace Bxb := blk_b hb Bxb; (try clear cxb_0 cxb_1 cxb_2 cxb_3 cxb_4 cxb_5 cxb_6 cxb_7 cxb_8 cxb_9); obtain ⟨cxb_0, cxb_1, cxb_2, cxb_3, cxb_4, cxb_5, cxb_6, cxb_7, cxb_8, cxb_9⟩ := cells10 Bxb.out; replace Bfb := row_b hb Bfb; replace Bbb := row_b hb Bbb; replace Brb := row_b hb Brb; have Bs := Aside0.mk hbox; clear hbox; obtain ⟨cs_0, cs_1, cs_2, cs_3⟩ := cells4 Bs.out; (try clear hb); clear hgs)))
    (try simp only [Exit.inBlock, Exit.then])
    refine bodyPost_ret (results_none rfl _ _ _) rfl ?_
    exact ⟨⟨_, rfl⟩, (ap_r HB), ⟨Bxb.out, Bfb.out, Bbb.out, Brb.out⟩⟩
  · have hf : ∀ {α : Type} (x y : α), (if true = true then x else y) = x := fun _ _ => if_pos rfl
    rw [hf, hf]
    exact get_true hE hS hgt hvR
end
end Go.Proofs.Ytkhnhkjihhhbbaa.P

namespace Go.Proofs.Ytkhnhkjihhhbbaa.P
open Go.RowKit Go.Proofs.YtkhnhkjihhhbbaaW.PrintWords Go.Proofs.YtkhnhkjihhhbbaaW.PrintLast Go.Proofs.YtkhnhkjihhhbbaaW.PrintMore
set_option linter.unusedVariables false
set_option linter.unusedSimpArgs false
attribute [local go_sem] max2_int min2_int max_two min_two
def cutS (mo : Int) : Nat → Int → List S32 → List S32
  | 0, _, F => F
  | k + 1, i, F => cutS mo k (i + 1) (F.set i.toNat ⟨mn (rd_T32 F i).f0 mo, mn (rd_T32 F i).f1 mo⟩)
section
variable {w0 w : World} {xb fb bb rb : Nat} {A0 A1 A2 A3 A4 As : Option Addr} {c0 c1 c2 c3 c4 cF cB cs : Nat} {vR : Value} {l0 : List S36} {l1 : List S138} {l2 : List S112} {l3 : List S140} {l4 : List S142} {F Bd Rm : List S32} {mo tk he : Int} {fl fs : Bool} {sh : List Int}
set_option maxHeartbeats 8000000 in
set_option maxRecDepth 100000 in
theorem cut_any (hE : Env w0 w xb fb bb rb A0 A1 A2 A3 A4 c0 c1 c2 c3 c4 l0 l1 l2 l3 l4) (hS : Sys xb fb bb rb A0 A1 A2 A3 A4 c0 c1 c2 c3 c4 cF cB vR l0 l1 l2 l3 l4 F Bd Rm mo fl w) :
    Calls Try.prog 145 #[.pointer (some ⟨xb, 0, none⟩), .agg #[.int .i64 tk, .int .i64 he, .slice As sh.length cs, .bool fs]] w fun e w' => (∃ v, e = .returned v) ∧ Apart xb fb bb rb w w' ∧ Sys xb fb bb rb A0 A1 A2 A3 A4 c0 c1 c2 c3 c4 cF cB vR l0 l1 l2 l3 l4 (cutS mo l0.length 0 F) (cutS mo l0.length 0 Bd) Rm mo fl w' := by
  obtain ⟨H0, hs1, hs2, hs3, hs4, hl1, hl2, hl3, hl4, n1, n2, n3, n4, n5, n6, hr0, hr1, hr2, hr3, hr4, hc0, hc1, hc2, hc3, hc4, hm0⟩ := hE
  have HX : Aside0 (xb < w.heap.size ∧ fb < w.heap.size ∧ bb < w.heap.size ∧ rb < w.heap.size) := ⟨hl1, hl2, hl3, hl4⟩
  have HG : Aside0 (w0.heap.size ≤ xb ∧ w0.heap.size ≤ fb ∧ w0.heap.size ≤ bb ∧ w0.heap.size ≤ rb ∧ w0.heap.size ≤ w.heap.size) := ⟨hs1, hs2, hs3, hs4, H0.size⟩
  have HW0 := Aside0.mk H0
  clear hl1 hl2 hl3 hl4 hs1 hs2 hs3 hs4 H0
  have N_xb_fb := Aside0.mk n1
  have N_xb_bb := Aside0.mk n2
  have N_xb_rb := Aside0.mk n3
  have N_fb_bb := Aside0.mk n4
  have N_fb_rb := Aside0.mk n5
  have N_bb_rb := Aside0.mk n6
  have HR0 := Aside0.mk hr0
  have HR1 := Aside0.mk hr1
  have HR2 := Aside0.mk hr2
  have HR3 := Aside0.mk hr3
  have HR4 := Aside0.mk hr4
  have HC0 := Aside0.mk hc0
  have HC1 := Aside0.mk hc1
  have HC2 := Aside0.mk hc2
  have HC3 := Aside0.mk hc3
  have HC4 := Aside0.mk hc4
  have HM := Aside0.mk hm0
  clear n1 n2 n3 n4 n5 n6 hr0 hr1 hr2 hr3 hr4 hc0 hc1 hc2 hc3 hc4 hm0
  have HB : Aside0 (Apart xb fb bb rb w w) := ⟨Apart.refl w⟩
  obtain ⟨hb1, hb2, hb3, hb4⟩ := hS
  have Bxb := Aside0.mk hb1
  have Bfb := Aside0.mk hb2
  have Bbb := Aside0.mk hb3
  have Brb := Aside0.mk hb4
  clear hb1 hb2 hb3 hb4
  have i0 : ∀ (u v : Value) (w : World), (∀ A n c, u = .slice A n c → ∀ A' n' c', v = .slice A' n' c' → (Instr.index 204 (.agg #[u, v]) (.int .i64 0)).run Try.prog w = .ok u w) := fun u v w A n c hu A' n' c' hv => by subst hu hv; kernel_rfl
  have i1 : ∀ (u v : Value) (w : World), (∀ A n c, u = .slice A n c → ∀ A' n' c', v = .slice A' n' c' → (Instr.index 204 (.agg #[u, v]) (.int .i64 1)).run Try.prog w = .ok v w) := fun u v w A n c hu A' n' c' hv => by subst hu hv; kernel_rfl
  have ia : ∀ (w : World), (Instr.index 204 (.agg #[.slice (some ⟨fb, 0, none⟩) l0.length cF, .slice (some ⟨bb, 0, none⟩) l0.length cB]) (.int .i64 0)).run Try.prog w = .ok (.slice (some ⟨fb, 0, none⟩) l0.length cF) w := fun w => i0 _ _ w _ _ _ rfl _ _ _ rfl
  have ib : ∀ (w : World), (Instr.index 204 (.agg #[.slice (some ⟨fb, 0, none⟩) l0.length cF, .slice (some ⟨bb, 0, none⟩) l0.length cB]) (.int .i64 1)).run Try.prog w = .ok (.slice (some ⟨bb, 0, none⟩) l0.length cB) w := fun w => i1 _ _ w _ _ _ rfl _ _ _ rfl
  clear i0 i1
  obtain ⟨cxb_0, cxb_1, cxb_2, cxb_3, cxb_4, cxb_5, cxb_6, cxb_7, cxb_8, cxb_9⟩ := cells10 Bxb.out; 
  go_enter Try.func145, Try.ntmps145
  go_wp2_with (first | ((with_reducible refine gate_dst (N := 3) rfl ?_); go_must (refine box_ev (N := 3) (cs := #[.int .i64 tk, .int .i64 he, .slice As sh.length cs, .bool fs]) (t := 45) (h := ?_); intro s hgs w1 hbox hb; have GEs := ge_newx HB hgs; have N_xb_s := ne_newx HX.out.1 HB hgs; have N_fb_s := ne_newx HX.out.2.1 HB hgs; have N_bb_s := ne_newx HX.out.2.2.1 HB hgs; have N_rb_s := ne_newx HX.out.2.2.2 HB hgs; replace HB := ap_b hb HB; replace Bxb := blk_b hb Bxb; (try clear cxb_0 cxb_1 cxb_2 cxb_3 cxb_4 cxb_5 cxb_6 cxb_7 cxb_8 cxb_9); obtain ⟨cxb_0, cxb_1, cxb_2, cxb_3, cxb_4, cxb_5, cxb_6, cxb_7, cxb_8, cxb_9⟩ := cells10 Bxb.out; replace Bfb := row_b hb Bfb; replace Bbb := row_b hb Bbb; replace Brb := row_b hb Brb; have Bs := Aside0.mk hbox; clear hbox; obtain ⟨cs_0, cs_1, cs_2, cs_3⟩ := cells4 Bs.out; (try clear hb); clear hgs)))
  refine region_ri (n := 12) (B := [0, 1, 3, 7, 15, 0, 32, 96, 224, 480, 1023, 0]) (fun o_ => match o_ with | 0 => some 8 | 1 => some 9 | 2 => some 10 | 3 => some 11 | 4 => some 12 | 5 => some 13 | 6 => some 14 | 7 => some 15 | 8 => some 16 | 9 => some 17 | 10 => some 18 | 11 => some 19 | _ => none) (fun o_ q_ w' => match o_ with | 0 => q_ = .pointer (some ⟨xb, 0, none⟩) | 1 => q_ = .pointer (some ⟨xb, 0, none⟩) | 2 => q_ = .pointer (some ⟨xb, 5, none⟩) | 3 => q_ = .pointer (some ⟨xb, 5, none⟩) | 4 => q_ = .slice (some ⟨fb, 0, none⟩) l0.length cF | 5 => q_ = .pointer (some ⟨xb, 0, none⟩) | 6 => q_ = .pointer (some ⟨xb, 0, none⟩) | 7 => q_ = .pointer (some ⟨xb, 5, none⟩) | 8 => q_ = .pointer (some ⟨xb, 6, none⟩) | 9 => q_ = .slice (some ⟨bb, 0, none⟩) l0.length cB | 10 => q_ = .agg #[.slice (some ⟨fb, 0, none⟩) l0.length cF, .slice (some ⟨bb, 0, none⟩) l0.length cB] | 11 => q_ = .int .i64 0 | _ => True) (fun b w' => Aside0 (Apart xb fb bb rb w w') ∧ Aside0 (w'.heap[xb]? = some (.cells #[.slice A0 l0.length c0, .slice A1 l1.length c1, .slice A2 l2.length c2, .slice A3 l3.length c3, .slice A4 l4.length c4, .slice (some ⟨fb, 0, none⟩) l0.length cF, .slice (some ⟨bb, 0, none⟩) l0.length cB, vR, .int .i64 mo, .bool fl] 119 (0, 0))) ∧ Aside0 (Row w' fb (.slice (some ⟨fb, 0, none⟩) l0.length cF) (F)) ∧ Aside0 (Row w' bb (.slice (some ⟨bb, 0, none⟩) l0.length cB) (Bd)) ∧ Aside0 (Row w' rb (vR) (Rm)) ∧ Aside0 (w'.heap[s]? = some (.cells #[.int .i64 tk, .int .i64 he, .slice As sh.length cs, .bool fs] 45 (0, 0)))) rfl rfl (by kernel_rfl) (by kernel_rfl) (by kernel_rfl) ⟨⟨Apart.step ((ap_r HB)) (below_drew (Below.refl _ _))⟩, ⟨blk_below (Bxb.out) (below_drew (Below.refl _ _))⟩, ⟨Row.below ((row_r Bfb)) (below_drew (Below.refl _ _))⟩, ⟨Row.below ((row_r Bbb)) (below_drew (Below.refl _ _))⟩, ⟨Row.below ((row_r Brb)) (below_drew (Below.refl _ _))⟩, ⟨blk_below (Bs.out) (below_drew (Below.refl _ _))⟩⟩ ?_ ?_
  · intro o_ hi
    match o_, hi with
    | 0, _ =>
      intro b a wq hI hbi_ hb_ hoff_
      have e0 : a.eval (.tmp 0) = .pointer (some ⟨xb, 0, none⟩) := hI.old 0 (by decide) rfl
      have s0 := sv_ e0
      have hJ := hI.j
      obtain ⟨HBq, qxb, qfb, qbb, qrb, qs⟩ := hJ
      obtain ⟨cxb_0, cxb_1, cxb_2, cxb_3, cxb_4, cxb_5, cxb_6, cxb_7, cxb_8, cxb_9⟩ := cells10 qxb.out
      exact op_keep hI (i := 0) ⟨HBq, qxb, qfb, qbb, qrb, qs⟩ (hrun := gs_)
    | 1, _ =>
      intro b a wq hI hbi_ hb_ hoff_
      have e8 := hI.new 8 0 (by decide) (hb_ 0 (by decide)) rfl fun _ h => h
      have s8 := sv_ e8
      have hJ := hI.j
      obtain ⟨HBq, qxb, qfb, qbb, qrb, qs⟩ := hJ
      obtain ⟨cxb_0, cxb_1, cxb_2, cxb_3, cxb_4, cxb_5, cxb_6, cxb_7, cxb_8, cxb_9⟩ := cells10 qxb.out
      exact op_keep hI (i := 1) ⟨HBq, qxb, qfb, qbb, qrb, qs⟩ (hrun := gs_)
    | 2, _ =>
      intro b a wq hI hbi_ hb_ hoff_
      have e9 := hI.new 9 1 (by decide) (hb_ 1 (by decide)) rfl fun _ h => h
      have s9 := sv_ e9
      have hJ := hI.j
      obtain ⟨HBq, qxb, qfb, qbb, qrb, qs⟩ := hJ
      obtain ⟨cxb_0, cxb_1, cxb_2, cxb_3, cxb_4, cxb_5, cxb_6, cxb_7, cxb_8, cxb_9⟩ := cells10 qxb.out
      exact op_keep hI (i := 2) ⟨HBq, qxb, qfb, qbb, qrb, qs⟩ (hrun := gs_)
    | 3, _ =>
      intro b a wq hI hbi_ hb_ hoff_
      have e10 := hI.new 10 2 (by decide) (hb_ 2 (by decide)) rfl fun _ h => h
      have s10 := sv_ e10
      have hJ := hI.j
      obtain ⟨HBq, qxb, qfb, qbb, qrb, qs⟩ := hJ
      obtain ⟨cxb_0, cxb_1, cxb_2, cxb_3, cxb_4, cxb_5, cxb_6, cxb_7, cxb_8, cxb_9⟩ := cells10 qxb.out
      exact op_keep hI (i := 3) ⟨HBq, qxb, qfb, qbb, qrb, qs⟩ (hrun := gs_)
    | 4, _ =>
      intro b a wq hI hbi_ hb_ hoff_
      have e11 := hI.new 11 3 (by decide) (hb_ 3 (by decide)) rfl fun _ h => h
      have s11 := sv_ e11
      have hJ := hI.j
      obtain ⟨HBq, qxb, qfb, qbb, qrb, qs⟩ := hJ
      obtain ⟨cxb_0, cxb_1, cxb_2, cxb_3, cxb_4, cxb_5, cxb_6, cxb_7, cxb_8, cxb_9⟩ := cells10 qxb.out
      exact op_keep hI (i := 4) ⟨HBq, qxb, qfb, qbb, qrb, qs⟩ (hrun := gs_)
    | 5, _ =>
      intro b a wq hI hbi_ hb_ hoff_
      have e0 : a.eval (.tmp 0) = .pointer (some ⟨xb, 0, none⟩) := hI.old 0 (by decide) rfl
      have s0 := sv_ e0
      have hJ := hI.j
      obtain ⟨HBq, qxb, qfb, qbb, qrb, qs⟩ := hJ
      obtain ⟨cxb_0, cxb_1, cxb_2, cxb_3, cxb_4, cxb_5, cxb_6, cxb_7, cxb_8, cxb_9⟩ := cells10 qxb.out
      exact op_keep hI (i := 5) ⟨HBq, qxb, qfb, qbb, qrb, qs⟩ (hrun := gs_)
    | 6, _ =>
      intro b a wq hI hbi_ hb_ hoff_
      have e13 := hI.new 13 5 (by decide) (hb_ 5 (by decide)) rfl fun _ h => h
      have s13 := sv_ e13
      have hJ := hI.j
      obtain ⟨HBq, qxb, qfb, qbb, qrb, qs⟩ := hJ
      obtain ⟨cxb_0, cxb_1, cxb_2, cxb_3, cxb_4, cxb_5, cxb_6, cxb_7, cxb_8, cxb_9⟩ := cells10 qxb.out
      exact op_keep hI (i := 6) ⟨HBq, qxb, qfb, qbb, qrb, qs⟩ (hrun := gs_)
    | 7, _ =>
      intro b a wq hI hbi_ hb_ hoff_
      have e14 := hI.new 14 6 (by decide) (hb_ 6 (by decide)) rfl fun _ h => h
      have s14 := sv_ e14
      have hJ := hI.j
      obtain ⟨HBq, qxb, qfb, qbb, qrb, qs⟩ := hJ
      obtain ⟨cxb_0, cxb_1, cxb_2, cxb_3, cxb_4, cxb_5, cxb_6, cxb_7, cxb_8, cxb_9⟩ := cells10 qxb.out
      exact op_keep hI (i := 7) ⟨HBq, qxb, qfb, qbb, qrb, qs⟩ (hrun := gs_)
    | 8, _ =>
      intro b a wq hI hbi_ hb_ hoff_
      have e15 := hI.new 15 7 (by decide) (hb_ 7 (by decide)) rfl fun _ h => h
      have s15 := sv_ e15
      have hJ := hI.j
      obtain ⟨HBq, qxb, qfb, qbb, qrb, qs⟩ := hJ
      obtain ⟨cxb_0, cxb_1, cxb_2, cxb_3, cxb_4, cxb_5, cxb_6, cxb_7, cxb_8, cxb_9⟩ := cells10 qxb.out
      exact op_keep hI (i := 8) ⟨HBq, qxb, qfb, qbb, qrb, qs⟩ (hrun := gs_)
    | 9, _ =>
      intro b a wq hI hbi_ hb_ hoff_
      have e16 := hI.new 16 8 (by decide) (hb_ 8 (by decide)) rfl fun _ h => h
      have s16 := sv_ e16
      have hJ := hI.j
      obtain ⟨HBq, qxb, qfb, qbb, qrb, qs⟩ := hJ
      obtain ⟨cxb_0, cxb_1, cxb_2, cxb_3, cxb_4, cxb_5, cxb_6, cxb_7, cxb_8, cxb_9⟩ := cells10 qxb.out
      exact op_keep hI (i := 9) ⟨HBq, qxb, qfb, qbb, qrb, qs⟩ (hrun := gs_)
    | 10, _ =>
      intro b a wq hI hbi_ hb_ hoff_
      have e12 := hI.new 12 4 (by decide) (hb_ 4 (by decide)) rfl fun _ h => h
      have s12 := sv_ e12
      have e17 := hI.new 17 9 (by decide) (hb_ 9 (by decide)) rfl fun _ h => h
      have s17 := sv_ e17
      have hJ := hI.j
      obtain ⟨HBq, qxb, qfb, qbb, qrb, qs⟩ := hJ
      obtain ⟨cxb_0, cxb_1, cxb_2, cxb_3, cxb_4, cxb_5, cxb_6, cxb_7, cxb_8, cxb_9⟩ := cells10 qxb.out
      exact op_keep hI (i := 10) ⟨HBq, qxb, qfb, qbb, qrb, qs⟩ (hrun := gs_)
    | 11, _ =>
      intro b a wq hI hbi_ hb_ hoff_
      have hJ := hI.j
      obtain ⟨HBq, qxb, qfb, qbb, qrb, qs⟩ := hJ
      obtain ⟨cxb_0, cxb_1, cxb_2, cxb_3, cxb_4, cxb_5, cxb_6, cxb_7, cxb_8, cxb_9⟩ := cells10 qxb.out
      exact op_keep hI (i := 11) ⟨HBq, qxb, qfb, qbb, qrb, qs⟩ (hrun := gs_)
    | o_ + 12, hi => exact absurd hi (by omega)
  intro vs wn b_ hall hJ hT
  obtain ⟨HJ0, HT0⟩ : Aside0 _ ∧ Aside0 _ := ⟨⟨hJ⟩, ⟨hT⟩⟩
  clear hall hJ hT
  have t0_ := HT0.out 0 (by decide) (by decide)
  have t1_ := HT0.out 1 (by decide) (by decide)
  have t2_ := HT0.out 2 (by decide) (by decide)
  have t3_ := HT0.out 3 (by decide) (by decide)
  have t4_ := HT0.out 4 (by decide) (by decide)
  have t5_ := HT0.out 5 (by decide) (by decide)
  have t6_ := HT0.out 6 (by decide) (by decide)
  have t7_ := HT0.out 7 (by decide) (by decide)
  have t8_ := HT0.out 8 (by decide) (by decide)
  have t9_ := HT0.out 9 (by decide) (by decide)
  have t10_ := HT0.out 10 (by decide) (by decide)
  have t11_ := HT0.out 11 (by decide) (by decide)
  simp only [fillAll, show List.range 12 = [0, 1, 2, 3, 4, 5, 6, 7, 8, 9, 10, 11] from rfl]
  rw [(show vs 0 = _ from t0_), (show vs 1 = _ from t1_), (show vs 2 = _ from t2_), (show vs 3 = _ from t3_), (show vs 4 = _ from t4_), (show vs 5 = _ from t5_), (show vs 6 = _ from t6_), (show vs 7 = _ from t7_), (show vs 8 = _ from t8_), (show vs 9 = _ from t9_), (show vs 10 = _ from t10_), (show vs 11 = _ from t11_)]
  clear t0_ t1_ t2_ t3_ t4_ t5_ t6_ t7_ t8_ t9_ t10_ t11_
  simp only [Act.put, List.setIfInBounds_toArray, List.set_cons_zero, List.set_cons_succ]
  clear HB Bxb Bfb Bbb Brb Bs
  (try clear cxb_0 cxb_1 cxb_2 cxb_3 cxb_4 cxb_5 cxb_6 cxb_7 cxb_8 cxb_9); (try clear cs_0 cs_1 cs_2 cs_3)
  obtain ⟨HB, Bxb, Bfb, Bbb, Brb, Bs⟩ := HJ0.out
  clear HJ0 HT0
  obtain ⟨cxb_0, cxb_1, cxb_2, cxb_3, cxb_4, cxb_5, cxb_6, cxb_7, cxb_8, cxb_9⟩ := cells10 Bxb.out
  go_wp2
  refine wp_loop_rounds 3 ?_
  rw [rounds_succ]
  go_wp2
  (try clear cxb_0 cxb_1 cxb_2 cxb_3 cxb_4 cxb_5 cxb_6 cxb_7 cxb_8 cxb_9)
  go_loopg [24] (l0.length) (fun k v24 w' => ∃ (i : Int) (F' : List S32), 0 ≤ i ∧ k = l0.length - i.toNat ∧ i ≤ l0.length ∧ v24 = .int .i64 i ∧ Aside0 (cutS mo l0.length 0 F = cutS mo (l0.length - i.toNat) i F') ∧ Aside0 (Apart xb fb bb rb w w') ∧ Aside0 (w'.heap[xb]? = some (.cells #[.slice A0 l0.length c0, .slice A1 l1.length c1, .slice A2 l2.length c2, .slice A3 l3.length c3, .slice A4 l4.length c4, .slice (some ⟨fb, 0, none⟩) l0.length cF, .slice (some ⟨bb, 0, none⟩) l0.length cB, vR, .int .i64 mo, .bool fl] 119 (0, 0))) ∧ Aside0 (Row w' fb (.slice (some ⟨fb, 0, none⟩) l0.length cF) (F')) ∧ Aside0 (Row w' bb (.slice (some ⟨bb, 0, none⟩) l0.length cB) (Bd)) ∧ Aside0 (Row w' rb (vR) (Rm)) ∧ Aside0 (w'.heap[s]? = some (.cells #[.int .i64 tk, .int .i64 he, .slice As sh.length cs, .bool fs] 45 (0, 0))))
  case atStart => exact ⟨0, F, by omega, by simp, by omega, rfl, ⟨by simp⟩, HB, Bxb, Bfb, Bbb, Brb, Bs⟩
  case round =>
    clear HB Bxb Bfb Bbb Brb Bs
    obtain ⟨i, F', hi0, hn, hi, rfl, HE, HB, Bxb, Bfb, Bbb, Brb, Bs⟩ := hrel
    have Hn := Aside0.mk hn
    clear hn
    by_cases hi' : i < l0.length
    · obtain ⟨cxb_0, cxb_1, cxb_2, cxb_3, cxb_4, cxb_5, cxb_6, cxb_7, cxb_8, cxb_9⟩ := cells10 Bxb.out; obtain ⟨cfb_0, dfb_0⟩ := Row.cells Bfb.out i hi0 hi'; obtain ⟨cs_0, cs_1, cs_2, cs_3⟩ := cells4 Bs.out
      have hm3 := HM.out.1
      go_wp2_with (first | ((with_reducible refine gate_dst (N := 7) rfl ?_); go_must (refine box_ev (N := 7) (cs := #[.int .i64 0, .int .i64 0]) (t := 32) (h := ?_); intro p7 hgp7 w3 hbox hb; have GEp7 := ge_newx HB hgp7; have N_xb_p7 := ne_newx HX.out.1 HB hgp7; have N_fb_p7 := ne_newx HX.out.2.1 HB hgp7; have N_bb_p7 := ne_newx HX.out.2.2.1 HB hgp7; have N_rb_p7 := ne_newx HX.out.2.2.2 HB hgp7; have N_s_p7 := ne_new Bs hgp7; replace HB := ap_b hb HB; replace Bxb := blk_b hb Bxb; (try clear cxb_0 cxb_1 cxb_2 cxb_3 cxb_4 cxb_5 cxb_6 cxb_7 cxb_8 cxb_9); obtain ⟨cxb_0, cxb_1, cxb_2, cxb_3, cxb_4, cxb_5, cxb_6, cxb_7, cxb_8, cxb_9⟩ := cells10 Bxb.out; replace Bfb := row_b hb Bfb; (try clear cfb_0 dfb_0); obtain ⟨cfb_0, dfb_0⟩ := Row.cells Bfb.out i hi0 hi'; replace Bbb := row_b hb Bbb; replace Brb := row_b hb Brb; replace Bs := blk_b hb Bs; (try clear cs_0 cs_1 cs_2 cs_3); obtain ⟨cs_0, cs_1, cs_2, cs_3⟩ := cells4 Bs.out; have Bp7 := Aside0.mk hbox; clear hbox; obtain ⟨cp7_0, cp7_1⟩ := cells2 Bp7.out; (try clear hb); clear hgp7)) | ((with_reducible refine gate_store (t := 32) (p := 7) rfl ?_); go_must (refine row_ev p7 #[.int .i64 (rd_T32 F' i).f0, .int .i64 (rd_T32 F' i).f1] Bp7.out (h := ?_); intro w4 hbox ho_; replace HB := ap_o ho_ HB (Or.inr (Or.inr (Or.inr (Or.inr GEp7.out)))); replace Bxb := blk_o ho_ Bxb (by first | exact N_xb_p7.out | exact N_p7_xb.out.symm); (try clear cxb_0 cxb_1 cxb_2 cxb_3 cxb_4 cxb_5 cxb_6 cxb_7 cxb_8 cxb_9); obtain ⟨cxb_0, cxb_1, cxb_2, cxb_3, cxb_4, cxb_5, cxb_6, cxb_7, cxb_8, cxb_9⟩ := cells10 Bxb.out; replace Bfb := row_o ho_ Bfb (by first | exact N_fb_p7.out | exact N_p7_fb.out.symm); (try clear cfb_0 dfb_0); obtain ⟨cfb_0, dfb_0⟩ := Row.cells Bfb.out i hi0 hi'; replace Bbb := row_o ho_ Bbb (by first | exact N_bb_p7.out | exact N_p7_bb.out.symm); replace Brb := row_o ho_ Brb (by first | exact N_rb_p7.out | exact N_p7_rb.out.symm); replace Bs := blk_o ho_ Bs (by first | exact N_s_p7.out | exact N_p7_s.out.symm); (try clear cs_0 cs_1 cs_2 cs_3); obtain ⟨cs_0, cs_1, cs_2, cs_3⟩ := cells4 Bs.out; replace Bp7 := Aside0.mk hbox; clear hbox ho_; (try clear cp7_0 cp7_1); obtain ⟨cp7_0, cp7_1⟩ := cells2 Bp7.out; )))
      (try clear cxb_0 cxb_1 cxb_2 cxb_3 cxb_4 cxb_5 cxb_6 cxb_7 cxb_8 cxb_9); (try clear cfb_0 dfb_0); (try clear cs_0 cs_1 cs_2 cs_3); (try clear cp7_0 cp7_1)
      refine region_ri (n := 21) (B := [0, 0, 0, 4, 0, 16, 48, 112, 240, 508, 0, 1024, 0, 4096, 12288, 28672, 61440, 130048, 262140, 524287, 1048575]) (fun o_ => match o_ with | 0 => some 29 | 1 => some 30 | 2 => some 31 | 3 => some 32 | 4 => some 33 | 5 => some 34 | 6 => some 35 | 7 => some 36 | 8 => some 37 | 9 => some 38 | 10 => some 39 | 11 => some 40 | 12 => some 41 | 13 => some 42 | 14 => some 43 | 15 => some 44 | 16 => some 45 | 17 => some 46 | 18 => some 47 | 19 => some 48 | 20 => none | _ => none) (fun o_ q_ w' => match o_ with | 0 => q_ = .slice (some ⟨fb, 0, none⟩) l0.length cF | 1 => q_ = .int .i64 i | 2 => q_ = .pointer (some ⟨p7, 0, none⟩) | 3 => q_ = .int .i64 (rd_T32 F' i).f0 | 4 => q_ = .pointer (some ⟨xb, 0, none⟩) | 5 => q_ = .pointer (some ⟨xb, 0, none⟩) | 6 => q_ = .pointer (some ⟨xb, 5, none⟩) | 7 => q_ = .pointer (some ⟨xb, 8, none⟩) | 8 => q_ = .int .i64 mo | 9 => q_ = .int .i64 (mn (rd_T32 F' i).f0 mo) | 10 => q_ = .pointer (some ⟨p7, 1, none⟩) | 11 => q_ = .int .i64 (rd_T32 F' i).f1 | 12 => q_ = .pointer (some ⟨xb, 0, none⟩) | 13 => q_ = .pointer (some ⟨xb, 0, none⟩) | 14 => q_ = .pointer (some ⟨xb, 5, none⟩) | 15 => q_ = .pointer (some ⟨xb, 8, none⟩) | 16 => q_ = .int .i64 mo | 17 => q_ = .int .i64 (mn (rd_T32 F' i).f1 mo) | 18 => q_ = .agg #[.int .i64 (mn (rd_T32 F' i).f0 mo), .int .i64 (mn (rd_T32 F' i).f1 mo)] | 19 => q_ = .pointer (some ⟨fb, i.toNat * 2, none⟩) | _ => True) (fun b w' => if b 20 = true then (Aside0 (Apart xb fb bb rb w w') ∧ Aside0 (w'.heap[xb]? = some (.cells #[.slice A0 l0.length c0, .slice A1 l1.length c1, .slice A2 l2.length c2, .slice A3 l3.length c3, .slice A4 l4.length c4, .slice (some ⟨fb, 0, none⟩) l0.length cF, .slice (some ⟨bb, 0, none⟩) l0.length cB, vR, .int .i64 mo, .bool fl] 119 (0, 0))) ∧ Aside0 (Row w' fb (.slice (some ⟨fb, 0, none⟩) l0.length cF) (((F').set i.toNat ⟨(mn (rd_T32 F' i).f0 mo), (mn (rd_T32 F' i).f1 mo)⟩))) ∧ Aside0 (Row w' bb (.slice (some ⟨bb, 0, none⟩) l0.length cB) (Bd)) ∧ Aside0 (Row w' rb (vR) (Rm)) ∧ Aside0 (w'.heap[s]? = some (.cells #[.int .i64 tk, .int .i64 he, .slice As sh.length cs, .bool fs] 45 (0, 0)))) else (Aside0 (Apart xb fb bb rb w w') ∧ Aside0 (w'.heap[xb]? = some (.cells #[.slice A0 l0.length c0, .slice A1 l1.length c1, .slice A2 l2.length c2, .slice A3 l3.length c3, .slice A4 l4.length c4, .slice (some ⟨fb, 0, none⟩) l0.length cF, .slice (some ⟨bb, 0, none⟩) l0.length cB, vR, .int .i64 mo, .bool fl] 119 (0, 0))) ∧ Aside0 (Row w' fb (.slice (some ⟨fb, 0, none⟩) l0.length cF) (F')) ∧ Aside0 (Row w' bb (.slice (some ⟨bb, 0, none⟩) l0.length cB) (Bd)) ∧ Aside0 (Row w' rb (vR) (Rm)) ∧ Aside0 (w'.heap[s]? = some (.cells #[.int .i64 tk, .int .i64 he, .slice As sh.length cs, .bool fs] 45 (0, 0))) ∧ Aside0 (w'.heap[p7]? = some (.cells #[.int .i64 (rd_T32 F' i).f0, .int .i64 (rd_T32 F' i).f1] 32 (0, 0))))) rfl rfl (by kernel_rfl) (by kernel_rfl) (by kernel_rfl) (by show (if false = true then _ else _); rw [if_neg (by decide)]; exact ⟨ap_b (below_drew (Below.refl _ _)) HB, blk_b (below_drew (Below.refl _ _)) Bxb, row_b (below_drew (Below.refl _ _)) Bfb, row_b (below_drew (Below.refl _ _)) Bbb, row_b (below_drew (Below.refl _ _)) Brb, blk_b (below_drew (Below.refl _ _)) Bs, blk_b (below_drew (Below.refl _ _)) Bp7⟩) ?_ ?_
      · intro o_ hi
        match o_, hi with
        | 0, _ =>
          intro b a wq hI hbi_ hb_ hoff_
          have e5 : a.eval (.tmp 5) = .slice (some ⟨fb, 0, none⟩) l0.length cF := hI.old 5 (by decide) rfl
          have s5 := sv_ e5
          have hJ := hI.j
          exact op_keep hI (i := 0) (jk_ hJ (by decide)) (hrun := gs_)
        | 1, _ =>
          intro b a wq hI hbi_ hb_ hoff_
          have e6 : a.eval (.tmp 6) = .int .i64 i := hI.old 6 (by decide) rfl
          have s6 := sv_ e6
          have hJ := hI.j
          exact op_keep hI (i := 1) (jk_ hJ (by decide)) (hrun := gs_)
        | 2, _ =>
          intro b a wq hI hbi_ hb_ hoff_
          have e7 : a.eval (.tmp 7) = .pointer (some ⟨p7, 0, none⟩) := hI.old 7 (by decide) rfl
          have s7 := sv_ e7
          have hJ := hI.j
          exact op_keep hI (i := 2) (jk_ hJ (by decide)) (hrun := gs_)
        | 3, _ =>
          intro b a wq hI hbi_ hb_ hoff_
          have e31 := hI.new 31 2 (by decide) (hb_ 2 (by decide)) rfl fun _ h => h
          have s31 := sv_ e31
          have hJ := hI.j
          obtain ⟨HBq, qxb, qfb, qbb, qrb, qs, qp7⟩ := j0_ hJ (hoff_ 20 (by decide))
          obtain ⟨cp7_0, cp7_1⟩ := cells2 qp7.out; 
          exact op_keep hI (i := 3) (jk_ hJ (by decide)) (hrun := gs_)
        | 4, _ =>
          intro b a wq hI hbi_ hb_ hoff_
          have e0 : a.eval (.tmp 0) = .pointer (some ⟨xb, 0, none⟩) := hI.old 0 (by decide) rfl
          have s0 := sv_ e0
          have hJ := hI.j
          exact op_keep hI (i := 4) (jk_ hJ (by decide)) (hrun := gs_)
        | 5, _ =>
          intro b a wq hI hbi_ hb_ hoff_
          have e33 := hI.new 33 4 (by decide) (hb_ 4 (by decide)) rfl fun _ h => h
          have s33 := sv_ e33
          have hJ := hI.j
          exact op_keep hI (i := 5) (jk_ hJ (by decide)) (hrun := gs_)
        | 6, _ =>
          intro b a wq hI hbi_ hb_ hoff_
          have e34 := hI.new 34 5 (by decide) (hb_ 5 (by decide)) rfl fun _ h => h
          have s34 := sv_ e34
          have hJ := hI.j
          exact op_keep hI (i := 6) (jk_ hJ (by decide)) (hrun := gs_)
        | 7, _ =>
          intro b a wq hI hbi_ hb_ hoff_
          have e35 := hI.new 35 6 (by decide) (hb_ 6 (by decide)) rfl fun _ h => h
          have s35 := sv_ e35
          have hJ := hI.j
          exact op_keep hI (i := 7) (jk_ hJ (by decide)) (hrun := gs_)
        | 8, _ =>
          intro b a wq hI hbi_ hb_ hoff_
          have e36 := hI.new 36 7 (by decide) (hb_ 7 (by decide)) rfl fun _ h => h
          have s36 := sv_ e36
          have hJ := hI.j
          obtain ⟨HBq, qxb, qfb, qbb, qrb, qs, qp7⟩ := j0_ hJ (hoff_ 20 (by decide))
          obtain ⟨cxb_0, cxb_1, cxb_2, cxb_3, cxb_4, cxb_5, cxb_6, cxb_7, cxb_8, cxb_9⟩ := cells10 qxb.out; 
          exact op_keep hI (i := 8) (jk_ hJ (by decide)) (hrun := gs_)
        | 9, _ =>
          intro b a wq hI hbi_ hb_ hoff_
          have e32 := hI.new 32 3 (by decide) (hb_ 3 (by decide)) rfl fun _ h => h
          have s32 := sv_ e32
          have e37 := hI.new 37 8 (by decide) (hb_ 8 (by decide)) rfl fun _ h => h
          have s37 := sv_ e37
          have hJ := hI.j
          exact op_keep hI (i := 9) (jk_ hJ (by decide)) (hrun := gs_)
        | 10, _ =>
          intro b a wq hI hbi_ hb_ hoff_
          have e7 : a.eval (.tmp 7) = .pointer (some ⟨p7, 0, none⟩) := hI.old 7 (by decide) rfl
          have s7 := sv_ e7
          have hJ := hI.j
          exact op_keep hI (i := 10) (jk_ hJ (by decide)) (hrun := gs_)
        | 11, _ =>
          intro b a wq hI hbi_ hb_ hoff_
          have e39 := hI.new 39 10 (by decide) (hb_ 10 (by decide)) rfl fun _ h => h
          have s39 := sv_ e39
          have hJ := hI.j
          obtain ⟨HBq, qxb, qfb, qbb, qrb, qs, qp7⟩ := j0_ hJ (hoff_ 20 (by decide))
          obtain ⟨cp7_0, cp7_1⟩ := cells2 qp7.out; 
          exact op_keep hI (i := 11) (jk_ hJ (by decide)) (hrun := gs_)
        | 12, _ =>
          intro b a wq hI hbi_ hb_ hoff_
          have e0 : a.eval (.tmp 0) = .pointer (some ⟨xb, 0, none⟩) := hI.old 0 (by decide) rfl
          have s0 := sv_ e0
          have hJ := hI.j
          exact op_keep hI (i := 12) (jk_ hJ (by decide)) (hrun := gs_)
        | 13, _ =>
          intro b a wq hI hbi_ hb_ hoff_
          have e41 := hI.new 41 12 (by decide) (hb_ 12 (by decide)) rfl fun _ h => h
          have s41 := sv_ e41
          have hJ := hI.j
          exact op_keep hI (i := 13) (jk_ hJ (by decide)) (hrun := gs_)
        | 14, _ =>
          intro b a wq hI hbi_ hb_ hoff_
          have e42 := hI.new 42 13 (by decide) (hb_ 13 (by decide)) rfl fun _ h => h
          have s42 := sv_ e42
          have hJ := hI.j
          exact op_keep hI (i := 14) (jk_ hJ (by decide)) (hrun := gs_)
        | 15, _ =>
          intro b a wq hI hbi_ hb_ hoff_
          have e43 := hI.new 43 14 (by decide) (hb_ 14 (by decide)) rfl fun _ h => h
          have s43 := sv_ e43
          have hJ := hI.j
          exact op_keep hI (i := 15) (jk_ hJ (by decide)) (hrun := gs_)
        | 16, _ =>
          intro b a wq hI hbi_ hb_ hoff_
          have e44 := hI.new 44 15 (by decide) (hb_ 15 (by decide)) rfl fun _ h => h
          have s44 := sv_ e44
          have hJ := hI.j
          obtain ⟨HBq, qxb, qfb, qbb, qrb, qs, qp7⟩ := j0_ hJ (hoff_ 20 (by decide))
          obtain ⟨cxb_0, cxb_1, cxb_2, cxb_3, cxb_4, cxb_5, cxb_6, cxb_7, cxb_8, cxb_9⟩ := cells10 qxb.out; 
          exact op_keep hI (i := 16) (jk_ hJ (by decide)) (hrun := gs_)
        | 17, _ =>
          intro b a wq hI hbi_ hb_ hoff_
          have e40 := hI.new 40 11 (by decide) (hb_ 11 (by decide)) rfl fun _ h => h
          have s40 := sv_ e40
          have e45 := hI.new 45 16 (by decide) (hb_ 16 (by decide)) rfl fun _ h => h
          have s45 := sv_ e45
          have hJ := hI.j
          exact op_keep hI (i := 17) (jk_ hJ (by decide)) (hrun := gs_)
        | 18, _ =>
          intro b a wq hI hbi_ hb_ hoff_
          have e38 := hI.new 38 9 (by decide) (hb_ 9 (by decide)) rfl fun _ h => h
          have s38 := sv_ e38
          have e46 := hI.new 46 17 (by decide) (hb_ 17 (by decide)) rfl fun _ h => h
          have s46 := sv_ e46
          have hJ := hI.j
          exact op_keep hI (i := 18) (jk_ hJ (by decide)) (hrun := gs_)
        | 19, _ =>
          intro b a wq hI hbi_ hb_ hoff_
          have e29 := hI.new 29 0 (by decide) (hb_ 0 (by decide)) rfl fun _ h => h
          have s29 := sv_ e29
          have e30 := hI.new 30 1 (by decide) (hb_ 1 (by decide)) rfl fun _ h => h
          have s30 := sv_ e30
          have hJ := hI.j
          obtain ⟨HBq, qxb, qfb, qbb, qrb, qs, qp7⟩ := j0_ hJ (hoff_ 20 (by decide))
          obtain ⟨cxb_0, cxb_1, cxb_2, cxb_3, cxb_4, cxb_5, cxb_6, cxb_7, cxb_8, cxb_9⟩ := cells10 qxb.out; 
          obtain ⟨cs_0, cs_1, cs_2, cs_3⟩ := cells4 qs.out; 
          obtain ⟨cp7_0, cp7_1⟩ := cells2 qp7.out; 
          exact op_keep hI (i := 19) (jk_ hJ (by decide)) (hrun := gs_)
        | 20, _ =>
          intro b a wq hI hbi_ hb_ hoff_
          have e48 := hI.new 48 19 (by decide) (hb_ 19 (by decide)) rfl fun _ h => h
          have s48 := sv_ e48
          have e47 := hI.new 47 18 (by decide) (hb_ 18 (by decide)) rfl fun _ h => h
          have s47 := sv_ e47
          have hJ := hI.j
          obtain ⟨HBq, qxb, qfb, qbb, qrb, qs, qp7⟩ := j0_ hJ hbi_
          obtain ⟨cxb_0, cxb_1, cxb_2, cxb_3, cxb_4, cxb_5, cxb_6, cxb_7, cxb_8, cxb_9⟩ := cells10 qxb.out; 
          obtain ⟨cs_0, cs_1, cs_2, cs_3⟩ := cells4 qs.out; 
          obtain ⟨cp7_0, cp7_1⟩ := cells2 qp7.out; 
          refine ⟨_, rfl, rfl, fun K hK => ?_⟩
          obtain ⟨w2, hrun2, hrow2, hg2⟩ := Row.store (P := Try.prog) (by kernel_rfl) qfb.out (i) (hi0) (hi') ((mn (rd_T32 F' i).f0 mo)) ((mn (rd_T32 F' i).f1 mo))
          refine skip_ rfl rfl (w1 := w2) (by unfold execOp; simp [e48, e47, hrun2]) (hK undef _ (j1_up ⟨ap_g hg2 HBq (Or.inr (Or.inl rfl)), blk_g hg2 qxb (by first | exact N_xb_fb.out | exact N_fb_xb.out.symm), ⟨hrow2⟩, row_g hg2 qbb (by first | exact N_bb_fb.out | exact N_fb_bb.out.symm), row_g hg2 qrb (by first | exact N_rb_fb.out | exact N_fb_rb.out.symm), blk_g hg2 qs (by first | exact N_s_fb.out | exact N_fb_s.out.symm)⟩) (fun _ _ h => h) trivial)
        | o_ + 21, hi => exact absurd hi (by omega)
      intro vs wn b_ hall hJ hT
      replace hJ := j1_ hJ (hall 20 (by decide))
      obtain ⟨HJ0, HT0⟩ : Aside0 _ ∧ Aside0 _ := ⟨⟨hJ⟩, ⟨hT⟩⟩
      clear hall hJ hT
      simp only [fillAll, show List.range 21 = [0, 1, 2, 3, 4, 5, 6, 7, 8, 9, 10, 11, 12, 13, 14, 15, 16, 17, 18, 19, 20] from rfl]
      rw [show vs 0 = _ from HT0.out 0 (by decide) (by decide), show vs 1 = _ from HT0.out 1 (by decide) (by decide), show vs 2 = _ from HT0.out 2 (by decide) (by decide), show vs 3 = _ from HT0.out 3 (by decide) (by decide), show vs 4 = _ from HT0.out 4 (by decide) (by decide), show vs 5 = _ from HT0.out 5 (by decide) (by decide), show vs 6 = _ from HT0.out 6 (by decide) (by decide), show vs 7 = _ from HT0.out 7 (by decide) (by decide), show vs 8 = _ from HT0.out 8 (by decide) (by decide), show vs 9 = _ from HT0.out 9 (by decide) (by decide), show vs 10 = _ from HT0.out 10 (by decide) (by decide), show vs 11 = _ from HT0.out 11 (by decide) (by decide), show vs 12 = _ from HT0.out 12 (by decide) (by decide), show vs 13 = _ from HT0.out 13 (by decide) (by decide), show vs 14 = _ from HT0.out 14 (by decide) (by decide), show vs 15 = _ from HT0.out 15 (by decide) (by decide), show vs 16 = _ from HT0.out 16 (by decide) (by decide), show vs 17 = _ from HT0.out 17 (by decide) (by decide), show vs 18 = _ from HT0.out 18 (by decide) (by decide), show vs 19 = _ from HT0.out 19 (by decide) (by decide)]
      simp only [Act.put, List.setIfInBounds_toArray, List.set_cons_zero, List.set_cons_succ]
      clear HB Bxb Bfb Bbb Brb Bs Bp7
      obtain ⟨HB, Bxb, Bfb, Bbb, Brb, Bs⟩ := HJ0.out
      clear HJ0 HT0
      (try clear cxb_0 cxb_1 cxb_2 cxb_3 cxb_4 cxb_5 cxb_6 cxb_7 cxb_8 cxb_9); (try clear cs_0 cs_1 cs_2 cs_3); (try clear cp7_0 cp7_1)
      go_wp2
      go_roundg (l0.length - (i + 1).toNat)
      case measure => have := Hn.out; omega
      case rel => exact ⟨i + 1, _, by omega, rfl, by omega, rfl, ⟨by rw [HE.out, show l0.length - i.toNat = (l0.length - (i + 1).toNat) + 1 by omega, cutS]⟩, HB, Bxb, Bfb, Bbb, Brb, Bs⟩
    · have HE1 : Aside0 (cutS mo l0.length 0 F = F') := ⟨by rw [HE.out, show l0.length - i.toNat = 0 by omega]; rfl⟩
      have nBr : Aside0 (Row wr fb (.slice (some ⟨fb, 0, none⟩) l0.length cF) ((cutS mo l0.length 0 F))) := ⟨by rw [HE1.out]; exact Bfb.out⟩
      clear Bfb HE1 HE Hn
      have Bfb := nBr
      clear nBr
      obtain ⟨cxb_0, cxb_1, cxb_2, cxb_3, cxb_4, cxb_5, cxb_6, cxb_7, cxb_8, cxb_9⟩ := cells10 Bxb.out
      go_wp2
      clear hi hi0 hi'
      (try clear cxb_0 cxb_1 cxb_2 cxb_3 cxb_4 cxb_5 cxb_6 cxb_7 cxb_8 cxb_9)
      rw [rounds_succ]
      go_wp2
      go_loopg [24] (l0.length) (fun k v24 w' => ∃ (i : Int) (B' : List S32), 0 ≤ i ∧ k = l0.length - i.toNat ∧ i ≤ l0.length ∧ v24 = .int .i64 i ∧ Aside0 (cutS mo l0.length 0 Bd = cutS mo (l0.length - i.toNat) i B') ∧ Aside0 (Apart xb fb bb rb w w') ∧ Aside0 (w'.heap[xb]? = some (.cells #[.slice A0 l0.length c0, .slice A1 l1.length c1, .slice A2 l2.length c2, .slice A3 l3.length c3, .slice A4 l4.length c4, .slice (some ⟨fb, 0, none⟩) l0.length cF, .slice (some ⟨bb, 0, none⟩) l0.length cB, vR, .int .i64 mo, .bool fl] 119 (0, 0))) ∧ Aside0 (Row w' fb (.slice (some ⟨fb, 0, none⟩) l0.length cF) ((cutS mo l0.length 0 F))) ∧ Aside0 (Row w' bb (.slice (some ⟨bb, 0, none⟩) l0.length cB) (B')) ∧ Aside0 (Row w' rb (vR) (Rm)) ∧ Aside0 (w'.heap[s]? = some (.cells #[.int .i64 tk, .int .i64 he, .slice As sh.length cs, .bool fs] 45 (0, 0))))
      case atStart => exact ⟨0, Bd, by omega, by simp, by omega, rfl, ⟨by simp⟩, HB, Bxb, Bfb, Bbb, Brb, Bs⟩
      case round =>
        clear HB Bxb Bfb Bbb Brb Bs
        obtain ⟨i, B', hi0, hn, hi, rfl, HE, HB, Bxb, Bfb, Bbb, Brb, Bs⟩ := hrel
        have Hn := Aside0.mk hn
        clear hn
        by_cases hi' : i < l0.length
        · obtain ⟨cxb_0, cxb_1, cxb_2, cxb_3, cxb_4, cxb_5, cxb_6, cxb_7, cxb_8, cxb_9⟩ := cells10 Bxb.out; obtain ⟨cbb_0, dbb_0⟩ := Row.cells Bbb.out i hi0 hi'; obtain ⟨cs_0, cs_1, cs_2, cs_3⟩ := cells4 Bs.out
          have hm3 := HM.out.1
          go_wp2_with (first | ((with_reducible refine gate_dst (N := 7) rfl ?_); go_must (refine box_ev (N := 7) (cs := #[.int .i64 0, .int .i64 0]) (t := 32) (h := ?_); intro p7 hgp7 w3 hbox hb; have GEp7 := ge_newx HB hgp7; have N_xb_p7 := ne_newx HX.out.1 HB hgp7; have N_fb_p7 := ne_newx HX.out.2.1 HB hgp7; have N_bb_p7 := ne_newx HX.out.2.2.1 HB hgp7; have N_rb_p7 := ne_newx HX.out.2.2.2 HB hgp7; have N_s_p7 := ne_new Bs hgp7; replace HB := ap_b hb HB; replace Bxb := blk_b hb Bxb; (try clear cxb_0 cxb_1 cxb_2 cxb_3 cxb_4 cxb_5 cxb_6 cxb_7 cxb_8 cxb_9); obtain ⟨cxb_0, cxb_1, cxb_2, cxb_3, cxb_4, cxb_5, cxb_6, cxb_7, cxb_8, cxb_9⟩ := cells10 Bxb.out; replace Bfb := row_b hb Bfb; replace Bbb := row_b hb Bbb; (try clear cbb_0 dbb_0); obtain ⟨cbb_0, dbb_0⟩ := Row.cells Bbb.out i hi0 hi'; replace Brb := row_b hb Brb; replace Bs := blk_b hb Bs; (try clear cs_0 cs_1 cs_2 cs_3); obtain ⟨cs_0, cs_1, cs_2, cs_3⟩ := cells4 Bs.out; have Bp7 := Aside0.mk hbox; clear hbox; obtain ⟨cp7_0, cp7_1⟩ := cells2 Bp7.out; (try clear hb); clear hgp7)) | ((with_reducible refine gate_store (t := 32) (p := 7) rfl ?_); go_must (refine row_ev p7 #[.int .i64 (rd_T32 B' i).f0, .int .i64 (rd_T32 B' i).f1] Bp7.out (h := ?_); intro w4 hbox ho_; replace HB := ap_o ho_ HB (Or.inr (Or.inr (Or.inr (Or.inr GEp7.out)))); replace Bxb := blk_o ho_ Bxb (by first | exact N_xb_p7.out | exact N_p7_xb.out.symm); (try clear cxb_0 cxb_1 cxb_2 cxb_3 cxb_4 cxb_5 cxb_6 cxb_7 cxb_8 cxb_9); obtain ⟨cxb_0, cxb_1, cxb_2, cxb_3, cxb_4, cxb_5, cxb_6, cxb_7, cxb_8, cxb_9⟩ := cells10 Bxb.out; replace Bfb := row_o ho_ Bfb (by first | exact N_fb_p7.out | exact N_p7_fb.out.symm); replace Bbb := row_o ho_ Bbb (by first | exact N_bb_p7.out | exact N_p7_bb.out.symm); (try clear cbb_0 dbb_0); obtain ⟨cbb_0, dbb_0⟩ := Row.cells Bbb.out i hi0 hi'; replace Brb := row_o ho_ Brb (by first | exact N_rb_p7.out | exact N_p7_rb.out.symm); replace Bs := blk_o ho_ Bs (by first | exact N_s_p7.out | exact N_p7_s.out.symm); (try clear cs_0 cs_1 cs_2 cs_3); obtain ⟨cs_0, cs_1, cs_2, cs_3⟩ := cells4 Bs.out; replace Bp7 := Aside0.mk hbox; clear hbox ho_; (try clear cp7_0 cp7_1); obtain ⟨cp7_0, cp7_1⟩ := cells2 Bp7.out; )))
          (try clear cxb_0 cxb_1 cxb_2 cxb_3 cxb_4 cxb_5 cxb_6 cxb_7 cxb_8 cxb_9); (try clear cbb_0 dbb_0); (try clear cs_0 cs_1 cs_2 cs_3); (try clear cp7_0 cp7_1)
          refine region_ri (n := 21) (B := [0, 0, 0, 4, 0, 16, 48, 112, 240, 508, 0, 1024, 0, 4096, 12288, 28672, 61440, 130048, 262140, 524287, 1048575]) (fun o_ => match o_ with | 0 => some 29 | 1 => some 30 | 2 => some 31 | 3 => some 32 | 4 => some 33 | 5 => some 34 | 6 => some 35 | 7 => some 36 | 8 => some 37 | 9 => some 38 | 10 => some 39 | 11 => some 40 | 12 => some 41 | 13 => some 42 | 14 => some 43 | 15 => some 44 | 16 => some 45 | 17 => some 46 | 18 => some 47 | 19 => some 48 | 20 => none | _ => none) (fun o_ q_ w' => match o_ with | 0 => q_ = .slice (some ⟨bb, 0, none⟩) l0.length cB | 1 => q_ = .int .i64 i | 2 => q_ = .pointer (some ⟨p7, 0, none⟩) | 3 => q_ = .int .i64 (rd_T32 B' i).f0 | 4 => q_ = .pointer (some ⟨xb, 0, none⟩) | 5 => q_ = .pointer (some ⟨xb, 0, none⟩) | 6 => q_ = .pointer (some ⟨xb, 5, none⟩) | 7 => q_ = .pointer (some ⟨xb, 8, none⟩) | 8 => q_ = .int .i64 mo | 9 => q_ = .int .i64 (mn (rd_T32 B' i).f0 mo) | 10 => q_ = .pointer (some ⟨p7, 1, none⟩) | 11 => q_ = .int .i64 (rd_T32 B' i).f1 | 12 => q_ = .pointer (some ⟨xb, 0, none⟩) | 13 => q_ = .pointer (some ⟨xb, 0, none⟩) | 14 => q_ = .pointer (some ⟨xb, 5, none⟩) | 15 => q_ = .pointer (some ⟨xb, 8, none⟩) | 16 => q_ = .int .i64 mo | 17 => q_ = .int .i64 (mn (rd_T32 B' i).f1 mo) | 18 => q_ = .agg #[.int .i64 (mn (rd_T32 B' i).f0 mo), .int .i64 (mn (rd_T32 B' i).f1 mo)] | 19 => q_ = .pointer (some ⟨bb, i.toNat * 2, none⟩) | _ => True) (fun b w' => if b 20 = true then (Aside0 (Apart xb fb bb rb w w') ∧ Aside0 (w'.heap[xb]? = some (.cells #[.slice A0 l0.length c0, .slice A1 l1.length c1, .slice A2 l2.length c2, .slice A3 l3.length c3, .slice A4 l4.length c4, .slice (some ⟨fb, 0, none⟩) l0.length cF, .slice (some ⟨bb, 0, none⟩) l0.length cB, vR, .int .i64 mo, .bool fl] 119 (0, 0))) ∧ Aside0 (Row w' fb (.slice (some ⟨fb, 0, none⟩) l0.length cF) ((cutS mo l0.length 0 F))) ∧ Aside0 (Row w' bb (.slice (some ⟨bb, 0, none⟩) l0.length cB) (((B').set i.toNat ⟨(mn (rd_T32 B' i).f0 mo), (mn (rd_T32 B' i).f1 mo)⟩))) ∧ Aside0 (Row w' rb (vR) (Rm)) ∧ Aside0 (w'.heap[s]? = some (.cells #[.int .i64 tk, .int .i64 he, .slice As sh.length cs, .bool fs] 45 (0, 0)))) else (Aside0 (Apart xb fb bb rb w w') ∧ Aside0 (w'.heap[xb]? = some (.cells #[.slice A0 l0.length c0, .slice A1 l1.length c1, .slice A2 l2.length c2, .slice A3 l3.length c3, .slice A4 l4.length c4, .slice (some ⟨fb, 0, none⟩) l0.length cF, .slice (some ⟨bb, 0, none⟩) l0.length cB, vR, .int .i64 mo, .bool fl] 119 (0, 0))) ∧ Aside0 (Row w' fb (.slice (some ⟨fb, 0, none⟩) l0.length cF) ((cutS mo l0.length 0 F))) ∧ Aside0 (Row w' bb (.slice (some ⟨bb, 0, none⟩) l0.length cB) (B')) ∧ Aside0 (Row w' rb (vR) (Rm)) ∧ Aside0 (w'.heap[s]? = some (.cells #[.int .i64 tk, .int .i64 he, .slice As sh.length cs, .bool fs] 45 (0, 0))) ∧ Aside0 (w'.heap[p7]? = some (.cells #[.int .i64 (rd_T32 B' i).f0, .int .i64 (rd_T32 B' i).f1] 32 (0, 0))))) rfl rfl (by kernel_rfl) (by kernel_rfl) (by kernel_rfl) (by show (if false = true then _ else _); rw [if_neg (by decide)]; exact ⟨ap_b (below_drew (Below.refl _ _)) HB, blk_b (below_drew (Below.refl _ _)) Bxb, row_b (below_drew (Below.refl _ _)) Bfb, row_b (below_drew (Below.refl _ _)) Bbb, row_b (below_drew (Below.refl _ _)) Brb, blk_b (below_drew (Below.refl _ _)) Bs, blk_b (below_drew (Below.refl _ _)) Bp7⟩) ?_ ?_
          · intro o_ hi
            match o_, hi with
            | 0, _ =>
              intro b a wq hI hbi_ hb_ hoff_
              have e5 : a.eval (.tmp 5) = .slice (some ⟨bb, 0, none⟩) l0.length cB := hI.old 5 (by decide) rfl
              have s5 := sv_ e5
              have hJ := hI.j
              exact op_keep hI (i := 0) (jk_ hJ (by decide)) (hrun := gs_)
            | 1, _ =>
              intro b a wq hI hbi_ hb_ hoff_
              have e6 : a.eval (.tmp 6) = .int .i64 i := hI.old 6 (by decide) rfl
              have s6 := sv_ e6
              have hJ := hI.j
              exact op_keep hI (i := 1) (jk_ hJ (by decide)) (hrun := gs_)
            | 2, _ =>
              intro b a wq hI hbi_ hb_ hoff_
              have e7 : a.eval (.tmp 7) = .pointer (some ⟨p7, 0, none⟩) := hI.old 7 (by decide) rfl
              have s7 := sv_ e7
              have hJ := hI.j
              exact op_keep hI (i := 2) (jk_ hJ (by decide)) (hrun := gs_)
            | 3, _ =>
              intro b a wq hI hbi_ hb_ hoff_
              have e31 := hI.new 31 2 (by decide) (hb_ 2 (by decide)) rfl fun _ h => h
              have s31 := sv_ e31
              have hJ := hI.j
              obtain ⟨HBq, qxb, qfb, qbb, qrb, qs, qp7⟩ := j0_ hJ (hoff_ 20 (by decide))
              obtain ⟨cp7_0, cp7_1⟩ := cells2 qp7.out; 
              exact op_keep hI (i := 3) (jk_ hJ (by decide)) (hrun := gs_)
            | 4, _ =>
              intro b a wq hI hbi_ hb_ hoff_
              have e0 : a.eval (.tmp 0) = .pointer (some ⟨xb, 0, none⟩) := hI.old 0 (by decide) rfl
              have s0 := sv_ e0
              have hJ := hI.j
              exact op_keep hI (i := 4) (jk_ hJ (by decide)) (hrun := gs_)
            | 5, _ =>
              intro b a wq hI hbi_ hb_ hoff_
              have e33 := hI.new 33 4 (by decide) (hb_ 4 (by decide)) rfl fun _ h => h
              have s33 := sv_ e33
              have hJ := hI.j
              exact op_keep hI (i := 5) (jk_ hJ (by decide)) (hrun := gs_)
            | 6, _ =>
              intro b a wq hI hbi_ hb_ hoff_
              have e34 := hI.new 34 5 (by decide) (hb_ 5 (by decide)) rfl fun _ h => h
              have s34 := sv_ e34
              have hJ := hI.j
              exact op_keep hI (i := 6) (jk_ hJ (by decide)) (hrun := gs_)
            | 7, _ =>
              intro b a wq hI hbi_ hb_ hoff_
              have e35 := hI.new 35 6 (by decide) (hb_ 6 (by decide)) rfl fun _ h => h
              have s35 := sv_ e35
              have hJ := hI.j
              exact op_keep hI (i := 7) (jk_ hJ (by decide)) (hrun := gs_)
            | 8, _ =>
              intro b a wq hI hbi_ hb_ hoff_
              have e36 := hI.new 36 7 (by decide) (hb_ 7 (by decide)) rfl fun _ h => h
              have s36 := sv_ e36
              have hJ := hI.j
              obtain ⟨HBq, qxb, qfb, qbb, qrb, qs, qp7⟩ := j0_ hJ (hoff_ 20 (by decide))
              obtain ⟨cxb_0, cxb_1, cxb_2, cxb_3, cxb_4, cxb_5, cxb_6, cxb_7, cxb_8, cxb_9⟩ := cells10 qxb.out; 
              exact op_keep hI (i := 8) (jk_ hJ (by decide)) (hrun := gs_)
            | 9, _ =>
              intro b a wq hI hbi_ hb_ hoff_
              have e32 := hI.new 32 3 (by decide) (hb_ 3 (by decide)) rfl fun _ h => h
              have s32 := sv_ e32
              have e37 := hI.new 37 8 (by decide) (hb_ 8 (by decide)) rfl fun _ h => h
              have s37 := sv_ e37
              have hJ := hI.j
              exact op_keep hI (i := 9) (jk_ hJ (by decide)) (hrun := gs_)
            | 10, _ =>
              intro b a wq hI hbi_ hb_ hoff_
              have e7 : a.eval (.tmp 7) = .pointer (some ⟨p7, 0, none⟩) := hI.old 7 (by decide) rfl
              have s7 := sv_ e7
              have hJ := hI.j
              exact op_keep hI (i := 10) (jk_ hJ (by decide)) (hrun := gs_)
            | 11, _ =>
              intro b a wq hI hbi_ hb_ hoff_
              have e39 := hI.new 39 10 (by decide) (hb_ 10 (by decide)) rfl fun _ h => h
              have s39 := sv_ e39
              have hJ := hI.j
              obtain ⟨HBq, qxb, qfb, qbb, qrb, qs, qp7⟩ := j0_ hJ (hoff_ 20 (by decide))
              obtain ⟨cp7_0, cp7_1⟩ := cells2 qp7.out; 
              exact op_keep hI (i := 11) (jk_ hJ (by decide)) (hrun := gs_)
            | 12, _ =>
              intro b a wq hI hbi_ hb_ hoff_
              have e0 : a.eval (.tmp 0) = .pointer (some ⟨xb, 0, none⟩) := hI.old 0 (by decide) rfl
              have s0 := sv_ e0
              have hJ := hI.j
              exact op_keep hI (i := 12) (jk_ hJ (by decide)) (hrun := gs_)
            | 13, _ =>
              intro b a wq hI hbi_ hb_ hoff_
              have e41 := hI.new 41 12 (by decide) (hb_ 12 (by decide)) rfl fun _ h => h
              have s41 := sv_ e41
              have hJ := hI.j
              exact op_keep hI (i := 13) (jk_ hJ (by decide)) (hrun := gs_)
            | 14, _ =>
              intro b a wq hI hbi_ hb_ hoff_
              have e42 := hI.new 42 13 (by decide) (hb_ 13 (by decide)) rfl fun _ h => h
              have s42 := sv_ e42
              have hJ := hI.j
              exact op_keep hI (i := 14) (jk_ hJ (by decide)) (hrun := gs_)
            | 15, _ =>
              intro b a wq hI hbi_ hb_ hoff_
              have e43 := hI.new 43 14 (by decide) (hb_ 14 (by decide)) rfl fun _ h => h
              have s43 := sv_ e43
              have hJ := hI.j
              exact op_keep hI (i := 15) (jk_ hJ (by decide)) (hrun := gs_)
            | 16, _ =>
              intro b a wq hI hbi_ hb_ hoff_
              have e44 := hI.new 44 15 (by decide) (hb_ 15 (by decide)) rfl fun _ h => h
              have s44 := sv_ e44
              have hJ := hI.j
              obtain ⟨HBq, qxb, qfb, qbb, qrb, qs, qp7⟩ := j0_ hJ (hoff_ 20 (by decide))
              obtain ⟨cxb_0, cxb_1, cxb_2, cxb_3, cxb_4, cxb_5, cxb_6, cxb_7, cxb_8, cxb_9⟩ := cells10 qxb.out; 
              exact op_keep hI (i := 16) (jk_ hJ (by decide)) (hrun := gs_)
            | 17, _ =>
              intro b a wq hI hbi_ hb_ hoff_
              have e40 := hI.new 40 11 (by decide) (hb_ 11 (by decide)) rfl fun _ h => h
              have s40 := sv_ e40
              have e45 := hI.new 45 16 (by decide) (hb_ 16 (by decide)) rfl fun _ h => h
              have s45 := sv_ e45
              have hJ := hI.j
              exact op_keep hI (i := 17) (jk_ hJ (by decide)) (hrun := gs_)
            | 18, _ =>
              intro b a wq hI hbi_ hb_ hoff_
              have e38 := hI.new 38 9 (by decide) (hb_ 9 (by decide)) rfl fun _ h => h
              have s38 := sv_ e38
              have e46 := hI.new 46 17 (by decide) (hb_ 17 (by decide)) rfl fun _ h => h
              have s46 := sv_ e46
              have hJ := hI.j
              exact op_keep hI (i := 18) (jk_ hJ (by decide)) (hrun := gs_)
            | 19, _ =>
              intro b a wq hI hbi_ hb_ hoff_
              have e29 := hI.new 29 0 (by decide) (hb_ 0 (by decide)) rfl fun _ h => h
              have s29 := sv_ e29
              have e30 := hI.new 30 1 (by decide) (hb_ 1 (by decide)) rfl fun _ h => h
              have s30 := sv_ e30
              have hJ := hI.j
              obtain ⟨HBq, qxb, qfb, qbb, qrb, qs, qp7⟩ := j0_ hJ (hoff_ 20 (by decide))
              obtain ⟨cxb_0, cxb_1, cxb_2, cxb_3, cxb_4, cxb_5, cxb_6, cxb_7, cxb_8, cxb_9⟩ := cells10 qxb.out; 
              obtain ⟨cs_0, cs_1, cs_2, cs_3⟩ := cells4 qs.out; 
              obtain ⟨cp7_0, cp7_1⟩ := cells2 qp7.out; 
              exact op_keep hI (i := 19) (jk_ hJ (by decide)) (hrun := gs_)
            | 20, _ =>
              intro b a wq hI hbi_ hb_ hoff_
              have e48 := hI.new 48 19 (by decide) (hb_ 19 (by decide)) rfl fun _ h => h
              have s48 := sv_ e48
              have e47 := hI.new 47 18 (by decide) (hb_ 18 (by decide)) rfl fun _ h => h
              have s47 := sv_ e47
              have hJ := hI.j
              obtain ⟨HBq, qxb, qfb, qbb, qrb, qs, qp7⟩ := j0_ hJ hbi_
              obtain ⟨cxb_0, cxb_1, cxb_2, cxb_3, cxb_4, cxb_5, cxb_6, cxb_7, cxb_8, cxb_9⟩ := cells10 qxb.out; 
              obtain ⟨cs_0, cs_1, cs_2, cs_3⟩ := cells4 qs.out; 
              obtain ⟨cp7_0, cp7_1⟩ := cells2 qp7.out; 
              refine ⟨_, rfl, rfl, fun K hK => ?_⟩
              obtain ⟨w2, hrun2, hrow2, hg2⟩ := Row.store (P := Try.prog) (by kernel_rfl) qbb.out (i) (hi0) (hi') ((mn (rd_T32 B' i).f0 mo)) ((mn (rd_T32 B' i).f1 mo))
              refine skip_ rfl rfl (w1 := w2) (by unfold execOp; simp [e48, e47, hrun2]) (hK undef _ (j1_up ⟨ap_g hg2 HBq (Or.inr (Or.inr (Or.inl rfl))), blk_g hg2 qxb (by first | exact N_xb_bb.out | exact N_bb_xb.out.symm), row_g hg2 qfb (by first | exact N_fb_bb.out | exact N_bb_fb.out.symm), ⟨hrow2⟩, row_g hg2 qrb (by first | exact N_rb_bb.out | exact N_bb_rb.out.symm), blk_g hg2 qs (by first | exact N_s_bb.out | exact N_bb_s.out.symm)⟩) (fun _ _ h => h) trivial)
            | o_ + 21, hi => exact absurd hi (by omega)
          intro vs wn b_ hall hJ hT
          replace hJ := j1_ hJ (hall 20 (by decide))
          obtain ⟨HJ0, HT0⟩ : Aside0 _ ∧ Aside0 _ := ⟨⟨hJ⟩, ⟨hT⟩⟩
          clear hall hJ hT
          simp only [fillAll, show List.range 21 = [0, 1, 2, 3, 4, 5, 6, 7, 8, 9, 10, 11, 12, 13, 14, 15, 16, 17, 18, 19, 20] from rfl]
          rw [show vs 0 = _ from HT0.out 0 (by decide) (by decide), show vs 1 = _ from HT0.out 1 (by decide) (by decide), show vs 2 = _ from HT0.out 2 (by decide) (by decide), show vs 3 = _ from HT0.out 3 (by decide) (by decide), show vs 4 = _ from HT0.out 4 (by decide) (by decide), show vs 5 = _ from HT0.out 5 (by decide) (by decide), show vs 6 = _ from HT0.out 6 (by decide) (by decide), show vs 7 = _ from HT0.out 7 (by decide) (by decide), show vs 8 = _ from HT0.out 8 (by decide) (by decide), show vs 9 = _ from HT0.out 9 (by decide) (by decide), show vs 10 = _ from HT0.out 10 (by decide) (by decide), show vs 11 = _ from HT0.out 11 (by decide) (by decide), show vs 12 = _ from HT0.out 12 (by decide) (by decide), show vs 13 = _ from HT0.out 13 (by decide) (by decide), show vs 14 = _ from HT0.out 14 (by decide) (by decide), show vs 15 = _ from HT0.out 15 (by decide) (by decide), show vs 16 = _ from HT0.out 16 (by decide) (by decide), show vs 17 = _ from HT0.out 17 (by decide) (by decide), show vs 18 = _ from HT0.out 18 (by decide) (by decide), show vs 19 = _ from HT0.out 19 (by decide) (by decide)]
          simp only [Act.put, List.setIfInBounds_toArray, List.set_cons_zero, List.set_cons_succ]
          clear HB Bxb Bfb Bbb Brb Bs Bp7
          obtain ⟨HB, Bxb, Bfb, Bbb, Brb, Bs⟩ := HJ0.out
          clear HJ0 HT0
          (try clear cxb_0 cxb_1 cxb_2 cxb_3 cxb_4 cxb_5 cxb_6 cxb_7 cxb_8 cxb_9); (try clear cs_0 cs_1 cs_2 cs_3); (try clear cp7_0 cp7_1)
          go_wp2
          go_roundg (l0.length - (i + 1).toNat)
          case measure => have := Hn.out; omega
          case rel => exact ⟨i + 1, _, by omega, rfl, by omega, rfl, ⟨by rw [HE.out, show l0.length - i.toNat = (l0.length - (i + 1).toNat) + 1 by omega, cutS]⟩, HB, Bxb, Bfb, Bbb, Brb, Bs⟩
        · have HE1 : Aside0 (cutS mo l0.length 0 Bd = B') := ⟨by rw [HE.out, show l0.length - i.toNat = 0 by omega]; rfl⟩
          have nBr : Aside0 (Row wr bb (.slice (some ⟨bb, 0, none⟩) l0.length cB) ((cutS mo l0.length 0 Bd))) := ⟨by rw [HE1.out]; exact Bbb.out⟩
          clear Bbb HE1 HE Hn
          have Bbb := nBr
          clear nBr
          obtain ⟨cxb_0, cxb_1, cxb_2, cxb_3, cxb_4, cxb_5, cxb_6, cxb_7, cxb_8, cxb_9⟩ := cells10 Bxb.out
          go_wp2
          clear hi hi0 hi'
          (try clear cxb_0 cxb_1 cxb_2 cxb_3 cxb_4 cxb_5 cxb_6 cxb_7 cxb_8 cxb_9)
          rw [rounds_succ]
          go_wp2
          go_end0
          exact ⟨⟨_, rfl⟩, (ap_r HB), ⟨Bxb.out, Bfb.out, Bbb.out, Brb.out⟩⟩
end
end Go.Proofs.Ytkhnhkjihhhbbaa.P

namespace Go.Proofs.Ytkhnhkjihhhbbaa.P
open Go.RowKit Go.Proofs.YtkhnhkjihhhbbaaW.PrintWords Go.Proofs.YtkhnhkjihhhbbaaW.PrintLast Go.Proofs.YtkhnhkjihhhbbaaW.PrintMore
set_option linter.unusedVariables false
set_option linter.unusedSimpArgs false
theorem Sys.below {xb fb bb rb : Nat} {A0 A1 A2 A3 A4 : Option Addr} {c0 c1 c2 c3 c4 cF cB : Nat} {vR : Value} {l0 : List S36} {l1 : List S138} {l2 : List S112} {l3 : List S140} {l4 : List S142} {F Bd Rm : List S32} {mo : Int} {fl : Bool} {w w' : World}
    (h : Sys xb fb bb rb A0 A1 A2 A3 A4 c0 c1 c2 c3 c4 cF cB vR l0 l1 l2 l3 l4 F Bd Rm mo fl w) (hb : Below w.heap.size w w') : Sys xb fb bb rb A0 A1 A2 A3 A4 c0 c1 c2 c3 c4 cF cB vR l0 l1 l2 l3 l4 F Bd Rm mo fl w' :=
  ⟨blk_below h.box hb, h.rF.below hb, h.rB.below hb, h.rR.below hb⟩
theorem relS_len1 (he : Int) : ∀ (l : List S36) (i : Int) (F B : List S32), (relS he l i F B).1.length = F.length
  | [], _, _, _ => rfl
  | v :: l, i, F, B => by rw [relS, relS_len1 he l, List.length_set]
theorem relS_len2 (he : Int) : ∀ (l : List S36) (i : Int) (F B : List S32), (relS he l i F B).2.length = B.length
  | [], _, _, _ => rfl
  | v :: l, i, F, B => by rw [relS, relS_len2 he l, List.length_set]
/-- A tick. -/
def tickS (l0 : List S36) (l1 : List S138) (l2 : List S112) (l3 : List S140) (l4 : List S142) (he : Int) (sh : List Int) (fs : Bool) (F Bd Rm : List S32) (mo : Int) (fl : Bool) : St :=
  ⟨(cutS (begS l3 mo) l0.length 0 (if (fl || fs) = true then (getS l4 0 (flowS l0 l1 l2 l3 sh (relS he l0 0 F Bd).1) Rm).1 else (flowS l0 l1 l2 l3 sh (relS he l0 0 F Bd).1))), (cutS (begS l3 mo) l0.length 0 (relS he l0 0 F Bd).2), (if (fl || fs) = true then (getS l4 0 (flowS l0 l1 l2 l3 sh (relS he l0 0 F Bd).1) Rm).2 else Rm), (begS l3 mo), (fl || fs)⟩
section
variable {w0 w : World} {xb fb bb rb : Nat} {A0 A1 A2 A3 A4 As : Option Addr} {c0 c1 c2 c3 c4 cF cB cs : Nat} {vR : Value} {l0 : List S36} {l1 : List S138} {l2 : List S112} {l3 : List S140} {l4 : List S142} {F Bd Rm : List S32} {mo tk he : Int} {fl fs : Bool} {sh : List Int}
set_option maxHeartbeats 8000000 in
set_option maxRecDepth 100000 in
theorem tick_any (hE : Env w0 w xb fb bb rb A0 A1 A2 A3 A4 c0 c1 c2 c3 c4 l0 l1 l2 l3 l4) (hS : Sys xb fb bb rb A0 A1 A2 A3 A4 c0 c1 c2 c3 c4 cF cB vR l0 l1 l2 l3 l4 F Bd Rm mo fl w) (hv : 0 ≤ he) (hrs : Kd.C (Kd.int .i64) w0 As sh.length sh) (hcs : sh.length ≤ cs) (hls : sh.length ≤ 100) (hfl : F.length = l0.length)
    (hpp : ∀ x ∈ l1, 0 ≤ x.f0 ∧ x.f0 < (l0.length : Int) ∧ 0 ≤ x.f1 ∧ x.f1 < (l0.length : Int)) (hlk : ∀ x ∈ l3, 0 ≤ x.f0 ∧ x.f0 < (l0.length : Int)) (hgt : ∀ x ∈ l4, 0 ≤ x.f0 ∧ x.f0 < (l0.length : Int)) (hvR : 0 < l4.length → ∃ cR, vR = .slice (some ⟨rb, 0, none⟩) l4.length cR) :
    Calls Try.prog 116 #[.pointer (some ⟨xb, 0, none⟩), .agg #[.int .i64 tk, .int .i64 he, .slice As sh.length cs, .bool fs]] w fun e w' => (∃ v, e = .returned v) ∧ Apart xb fb bb rb w w' ∧ Sys xb fb bb rb A0 A1 A2 A3 A4 c0 c1 c2 c3 c4 cF cB vR l0 l1 l2 l3 l4 (tickS l0 l1 l2 l3 l4 he sh fs F Bd Rm mo fl).F (tickS l0 l1 l2 l3 l4 he sh fs F Bd Rm mo fl).Bd (tickS l0 l1 l2 l3 l4 he sh fs F Bd Rm mo fl).Rm (tickS l0 l1 l2 l3 l4 he sh fs F Bd Rm mo fl).mo (tickS l0 l1 l2 l3 l4 he sh fs F Bd Rm mo fl).fl w' := by
  have HE := Aside0.mk hE
  have HS := Aside0.mk hS
  have HV := Aside0.mk hv
  have HRS := Aside0.mk hrs
  have HCS := Aside0.mk hcs
  have HLS := Aside0.mk hls
  have HFL := Aside0.mk hfl
  have HPP := Aside0.mk hpp
  have HLK := Aside0.mk hlk
  have HGT := Aside0.mk hgt
  have HVR := Aside0.mk hvR
  clear hE hS hv hrs hcs hls hfl hpp hlk hgt hvR
  have HB : Aside0 (Apart xb fb bb rb w w) := ⟨Apart.refl w⟩
  have ix0 : ∀ (w : World), (Instr.index 197 (.agg #[.func (.func 141) #[] #[], .func (.func 142) #[] #[], .func (.func 143) #[] #[], .func (.func 144) #[] #[], .func (.func 145) #[] #[]]) (.int .i64 0)).run Try.prog w = .ok (.func (.func 141) #[] #[]) w := fun _ => by kernel_rfl
  have ix1 : ∀ (w : World), (Instr.index 197 (.agg #[.func (.func 141) #[] #[], .func (.func 142) #[] #[], .func (.func 143) #[] #[], .func (.func 144) #[] #[], .func (.func 145) #[] #[]]) (.int .i64 1)).run Try.prog w = .ok (.func (.func 142) #[] #[]) w := fun _ => by kernel_rfl
  have ix2 : ∀ (w : World), (Instr.index 197 (.agg #[.func (.func 141) #[] #[], .func (.func 142) #[] #[], .func (.func 143) #[] #[], .func (.func 144) #[] #[], .func (.func 145) #[] #[]]) (.int .i64 2)).run Try.prog w = .ok (.func (.func 143) #[] #[]) w := fun _ => by kernel_rfl
  have ix3 : ∀ (w : World), (Instr.index 197 (.agg #[.func (.func 141) #[] #[], .func (.func 142) #[] #[], .func (.func 143) #[] #[], .func (.func 144) #[] #[], .func (.func 145) #[] #[]]) (.int .i64 3)).run Try.prog w = .ok (.func (.func 144) #[] #[]) w := fun _ => by kernel_rfl
  have ix4 : ∀ (w : World), (Instr.index 197 (.agg #[.func (.func 141) #[] #[], .func (.func 142) #[] #[], .func (.func 143) #[] #[], .func (.func 144) #[] #[], .func (.func 145) #[] #[]]) (.int .i64 4)).run Try.prog w = .ok (.func (.func 145) #[] #[]) w := fun _ => by kernel_rfl
  go_enter Try.func116, Try.ntmps116
  go_wp2_with (first | ((with_reducible refine gate_dst (N := 3) rfl ?_); go_must (refine box_event ?hg (N := 3) ?hd (cs := #[.int .i64 tk, .int .i64 he, .slice As sh.length cs, .bool fs]) (t := 45) ?hr ?_; (case hd => rfl); (case hg => rfl); (case hr => first | (go_simp; done) | (go_simp; rfl)); intro s hgs w1 hbox hb; have GEs : Aside0 (w.heap.size ≤ s) := ⟨by rw [hgs]; exact (show Apart xb fb bb rb w _ from (ap_r HB)).size⟩; have nHB := Aside0.mk (Apart.step ((ap_r HB)) hb); have nHS := Aside0.mk (Sys.below (by first | (with_reducible exact HS.out) | exact Sys.below HS.out (pw_below_drewN (Below.refl _ _) _) | exact Sys.below HS.out (below_drew (Below.refl _ _)) | exact Sys.below HS.out (pw_below_drewN (pw_below_drewN (Below.refl _ _) _) _)) hb); have N_xb_s : Aside0 (xb ≠ s) := ⟨by have := HE.out.t1; have := GEs.out; omega⟩; have N_fb_s : Aside0 (fb ≠ s) := ⟨by have := HE.out.t2; have := GEs.out; omega⟩; have N_bb_s : Aside0 (bb ≠ s) := ⟨by have := HE.out.t3; have := GEs.out; omega⟩; have N_rb_s : Aside0 (rb ≠ s) := ⟨by have := HE.out.t4; have := GEs.out; omega⟩; clear HB HS hb hgs; have HB := nHB; have HS := nHS; clear nHB nHS; have Bs := Aside0.mk hbox; clear hbox; obtain ⟨cs_0, cs_1, cs_2, cs_3⟩ := cells4 Bs.out)))
  refine wp_loop_rounds 6 ?_
  rw [rounds_succ]
  go_wp2_with (first | ((with_reducible refine gate_value (t := 10) rfl ?_); go_must (refine goesV_ (some 13) rfl rfl Try.func141 (by kernel_rfl) rfl #[.pointer (some ⟨xb, 0, none⟩), .agg #[.int .i64 tk, .int .i64 he, .slice As sh.length cs, .bool fs]] rfl rfl (by (try simp only [List.map_toArray, List.map_cons, List.map_nil]); first | done | rfl | (simp; done)) ?_; (with_reducible refine (begin_any (HE.out.apart ((ap_r HB))) (by first | (with_reducible exact HS.out) | exact Sys.below HS.out (pw_below_drewN (Below.refl _ _) _) | exact Sys.below HS.out (below_drew (Below.refl _ _)) | exact Sys.below HS.out (pw_below_drewN (pw_below_drewN (Below.refl _ _) _) _))).mono ?_); rintro e w2 ⟨⟨_, rfl⟩, ha_, hs_⟩; refine ⟨_, rfl, ?_⟩; have nHB := Aside0.mk (Apart.trans ((ap_r HB)) ha_); have nBs := Aside0.mk (Apart.blk ha_ (Bs.out) N_xb_s.out.symm N_fb_s.out.symm N_bb_s.out.symm N_rb_s.out.symm); have nHS := Aside0.mk hs_; clear HB Bs HS ha_ hs_; have HB := nHB; have Bs := nBs; have HS := nHS; clear nHB nBs nHS; (try clear cs_0 cs_1 cs_2 cs_3); obtain ⟨cs_0, cs_1, cs_2, cs_3⟩ := cells4 Bs.out)))
  rw [rounds_succ]
  go_wp2_with (first | ((with_reducible refine gate_value (t := 10) rfl ?_); go_must (refine goesV_ (some 13) rfl rfl Try.func142 (by kernel_rfl) rfl #[.pointer (some ⟨xb, 0, none⟩), .agg #[.int .i64 tk, .int .i64 he, .slice As sh.length cs, .bool fs]] rfl rfl (by (try simp only [List.map_toArray, List.map_cons, List.map_nil]); first | done | rfl | (simp; done)) ?_; (with_reducible refine (release_any (HE.out.apart ((ap_r HB))) (by first | (with_reducible exact HS.out) | exact Sys.below HS.out (pw_below_drewN (Below.refl _ _) _) | exact Sys.below HS.out (below_drew (Below.refl _ _)) | exact Sys.below HS.out (pw_below_drewN (pw_below_drewN (Below.refl _ _) _) _)) HV.out).mono ?_); rintro e w3 ⟨⟨_, rfl⟩, ha_, hs_⟩; refine ⟨_, rfl, ?_⟩; have nHB := Aside0.mk (Apart.trans ((ap_r HB)) ha_); have nBs := Aside0.mk (Apart.blk ha_ (Bs.out) N_xb_s.out.symm N_fb_s.out.symm N_bb_s.out.symm N_rb_s.out.symm); have nHS := Aside0.mk hs_; clear HB Bs HS ha_ hs_; have HB := nHB; have Bs := nBs; have HS := nHS; clear nHB nBs nHS; (try clear cs_0 cs_1 cs_2 cs_3); obtain ⟨cs_0, cs_1, cs_2, cs_3⟩ := cells4 Bs.out)))
  rw [rounds_succ]
  go_wp2_with (first | ((with_reducible refine gate_value (t := 10) rfl ?_); go_must (refine goesV_ (some 13) rfl rfl Try.func143 (by kernel_rfl) rfl #[.pointer (some ⟨xb, 0, none⟩), .agg #[.int .i64 tk, .int .i64 he, .slice As sh.length cs, .bool fs]] rfl rfl (by (try simp only [List.map_toArray, List.map_cons, List.map_nil]); first | done | rfl | (simp; done)) ?_; (with_reducible refine (flow_any (HE.out.apart ((ap_r HB))) (by first | (with_reducible exact HS.out) | exact Sys.below HS.out (pw_below_drewN (Below.refl _ _) _) | exact Sys.below HS.out (below_drew (Below.refl _ _)) | exact Sys.below HS.out (pw_below_drewN (pw_below_drewN (Below.refl _ _) _) _)) HRS.out HCS.out HLS.out (by rw [relS_len1]; exact HFL.out) HPP.out HLK.out).mono ?_); rintro e w4 ⟨⟨_, rfl⟩, ha_, hs_⟩; refine ⟨_, rfl, ?_⟩; have nHB := Aside0.mk (Apart.trans ((ap_r HB)) ha_); have nBs := Aside0.mk (Apart.blk ha_ (Bs.out) N_xb_s.out.symm N_fb_s.out.symm N_bb_s.out.symm N_rb_s.out.symm); have nHS := Aside0.mk hs_; clear HB Bs HS ha_ hs_; have HB := nHB; have Bs := nBs; have HS := nHS; clear nHB nBs nHS; (try clear cs_0 cs_1 cs_2 cs_3); obtain ⟨cs_0, cs_1, cs_2, cs_3⟩ := cells4 Bs.out)))
  rw [rounds_succ]
  go_wp2_with (first | ((with_reducible refine gate_value (t := 10) rfl ?_); go_must (refine goesV_ (some 13) rfl rfl Try.func144 (by kernel_rfl) rfl #[.pointer (some ⟨xb, 0, none⟩), .agg #[.int .i64 tk, .int .i64 he, .slice As sh.length cs, .bool fs]] rfl rfl (by (try simp only [List.map_toArray, List.map_cons, List.map_nil]); first | done | rfl | (simp; done)) ?_; (with_reducible refine (get_any (HE.out.apart ((ap_r HB))) (by first | (with_reducible exact HS.out) | exact Sys.below HS.out (pw_below_drewN (Below.refl _ _) _) | exact Sys.below HS.out (below_drew (Below.refl _ _)) | exact Sys.below HS.out (pw_below_drewN (pw_below_drewN (Below.refl _ _) _) _)) HGT.out HVR.out).mono ?_); rintro e w5 ⟨⟨_, rfl⟩, ha_, hs_⟩; refine ⟨_, rfl, ?_⟩; have nHB := Aside0.mk (Apart.trans ((ap_r HB)) ha_); have nBs := Aside0.mk (Apart.blk ha_ (Bs.out) N_xb_s.out.symm N_fb_s.out.symm N_bb_s.out.symm N_rb_s.out.symm); have nHS := Aside0.mk hs_; clear HB Bs HS ha_ hs_; have HB := nHB; have Bs := nBs; have HS := nHS; clear nHB nBs nHS; (try clear cs_0 cs_1 cs_2 cs_3); obtain ⟨cs_0, cs_1, cs_2, cs_3⟩ := cells4 Bs.out)))
  rw [rounds_succ]
  go_wp2_with (first | ((with_reducible refine gate_value (t := 10) rfl ?_); go_must (refine goesV_ (some 13) rfl rfl Try.func145 (by kernel_rfl) rfl #[.pointer (some ⟨xb, 0, none⟩), .agg #[.int .i64 tk, .int .i64 he, .slice As sh.length cs, .bool fs]] rfl rfl (by (try simp only [List.map_toArray, List.map_cons, List.map_nil]); first | done | rfl | (simp; done)) ?_; (with_reducible refine (cut_any (HE.out.apart ((ap_r HB))) (by first | (with_reducible exact HS.out) | exact Sys.below HS.out (pw_below_drewN (Below.refl _ _) _) | exact Sys.below HS.out (below_drew (Below.refl _ _)) | exact Sys.below HS.out (pw_below_drewN (pw_below_drewN (Below.refl _ _) _) _))).mono ?_); rintro e w6 ⟨⟨_, rfl⟩, ha_, hs_⟩; refine ⟨_, rfl, ?_⟩; have nHB := Aside0.mk (Apart.trans ((ap_r HB)) ha_); have nBs := Aside0.mk (Apart.blk ha_ (Bs.out) N_xb_s.out.symm N_fb_s.out.symm N_bb_s.out.symm N_rb_s.out.symm); have nHS := Aside0.mk hs_; clear HB Bs HS ha_ hs_; have HB := nHB; have Bs := nBs; have HS := nHS; clear nHB nBs nHS; (try clear cs_0 cs_1 cs_2 cs_3); obtain ⟨cs_0, cs_1, cs_2, cs_3⟩ := cells4 Bs.out)))
  rw [rounds_succ]
  go_wp2
  go_end0
  exact ⟨⟨_, rfl⟩, (ap_r HB), HS.out⟩
end
end Go.Proofs.Ytkhnhkjihhhbbaa.P

namespace Go.Proofs.Ytkhnhkjihhhbbaa.P
open Go.RowKit Go.Proofs.YtkhnhkjihhhbbaaW.PrintWords Go.Proofs.YtkhnhkjihhhbbaaW.PrintLast Go.Proofs.YtkhnhkjihhhbbaaW.PrintMore
set_option linter.unusedVariables false
set_option linter.unusedSimpArgs false
/-- Three rows of ranges of the call's own that share no block, and three blocks that are none of theirs. -/
structure Gas (n0 : Nat) (vF vB vR : Value) (F B R : List S32) (j1 j2 j3 : Nat) (w : World) : Prop where
  rF : RW w n0 vF F
  rB : RW w n0 vB B
  rR : RW w n0 vR R
  d1 : Dis vF vB
  d2 : Dis vF vR
  d3 : Dis vB vR
  k1 : n0 ≤ j1 ∧ ∃ cs t, w.heap[j1]? = some (.cells cs t (0, 0)) ∧ t ≠ 32
  k2 : n0 ≤ j2 ∧ ∃ cs t, w.heap[j2]? = some (.cells cs t (0, 0)) ∧ t ≠ 32
  k3 : n0 ≤ j3 ∧ ∃ cs t, w.heap[j3]? = some (.cells cs t (0, 0)) ∧ t ≠ 32
  ne : j1 ≠ j2 ∧ j1 ≠ j3 ∧ j2 ≠ j3
section
variable {n0 n1 j j' : Nat} {u v vF vB vR : Value} {l l' F B R : List S32} {j1 j2 j3 : Nat} {w w' : World}
theorem Gas.below (h : Gas n0 vF vB vR F B R j1 j2 j3 w) (hb : Below w.heap.size w w') : Gas n0 vF vB vR F B R j1 j2 j3 w' := by
  obtain ⟨h1, h2, h3, h4, h5, h6, ⟨a1, c1, t1, b1, e1⟩, ⟨a2, c2, t2, b2, e2⟩, ⟨a3, c3, t3, b3, e3⟩, h10⟩ := h
  exact ⟨Kd.R_below h1 hb, Kd.R_below h2 hb, Kd.R_below h3 hb, h4, h5, h6, ⟨a1, c1, t1, blk_below b1 hb, e1⟩, ⟨a2, c2, t2, blk_below b2 hb, e2⟩, ⟨a3, c3, t3, blk_below b3 hb, e3⟩, h10⟩
/-- A row's block; an empty row's: j. -/
def home (v : Value) (j : Nat) : Nat := v.ownBlock.getD j
theorem RW.row (h : RW w n0 v l) (j : Nat) : Row w (home v j) v l := by
  refine Kd.R_mono (Kd.R_lower (Kd.R_tight rfl h) (Nat.zero_le _)) (fun k hk => ?_)
  unfold home
  rw [← hk]
  rfl
theorem home_le (h : RW w n0 v l) (hj : n0 ≤ j) : n0 ≤ home v j := by
  unfold home
  cases hv : v.ownBlock with
  | none => exact hj
  | some k => exact Kd.R_base h k hv
theorem home_lt (h : RW w n0 v l) (hj : j < w.heap.size) : home v j < w.heap.size := by
  unfold home
  cases hv : v.ownBlock with
  | none => exact hj
  | some k => exact Kd.R_lt h k hv
theorem home_ne (hu : RW w n0 u l) (hv : RW w n1 v l') (hd : Dis u v) (hj : j ≠ j') {cs cs' : Array Value} {t t' : TypeId} (h1 : w.heap[j]? = some (.cells cs t (0, 0))) (ht : t ≠ 32) (h2 : w.heap[j']? = some (.cells cs' t' (0, 0))) (ht' : t' ≠ 32) : home u j ≠ home v j' := by
  unfold home
  cases hu1 : u.ownBlock with
  | none =>
    cases hv1 : v.ownBlock with
    | none => exact hj
    | some k => exact fun e => RW.ne hv h1 (Ne.symm ht) (by rw [hv1]; exact congrArg some e)
  | some i =>
    cases hv1 : v.ownBlock with
    | none => exact fun e => RW.ne hu h2 (Ne.symm ht') (by rw [hu1]; exact congrArg some e.symm)
    | some k => exact fun e => hd i hu1 (by rw [hv1]; exact congrArg some e)
theorem home_away (hv : RW w n0 v l) {x : Nat} {cs : Array Value} {t : TypeId} (hx : w.heap[x]? = some (.cells cs t (0, 0))) (ht : t ≠ 32) (hj : j ≠ x) : x ≠ home v j := by
  unfold home
  cases hv1 : v.ownBlock with
  | none => exact Ne.symm hj
  | some k => exact fun e => RW.ne hv hx (Ne.symm ht) (by rw [hv1]; exact congrArg some e)
end
section
variable {w0 w : World} {xb fb bb rb : Nat} {A0 A1 A2 A3 A4 As : Option Addr} {c0 c1 c2 c3 c4 cF cB cs : Nat} {vR : Value} {l0 : List S36} {l1 : List S138} {l2 : List S112} {l3 : List S140} {l4 : List S142} {F Bd Rm : List S32} {mo tk he : Int} {fl fs : Bool} {sh : List Int}
/-- A system is made of gas that was begun. -/
theorem sys_of_gas {vF vB : Value} {x j1 j2 j3 : Nat} {n0 : Nat} (hn0 : w0.heap.size ≤ n0) (h0 : Below w0.heap.size w0 w) (hg : Gas n0 vF vB vR F Bd Rm j1 j2 j3 w) (hx : n0 ≤ x) (hbx : w.heap[x]? = some (.cells #[.slice A0 l0.length c0, .slice A1 l1.length c1, .slice A2 l2.length c2, .slice A3 l3.length c3, .slice A4 l4.length c4, vF, vB, vR, .int .i64 mo, .bool fl] 119 (0, 0)))
    (x1 : j1 ≠ x) (x2 : j2 ≠ x) (x3 : j3 ≠ x) (hF : F.length = l0.length) (hB : Bd.length = l0.length) (hR : Rm.length = l4.length) (hp : 0 < l0.length)
    (r0 : Kd.C k36 w0 A0 l0.length l0) (r1 : Kd.C k138 w0 A1 l1.length l1) (r2 : Kd.C k112 w0 A2 l2.length l2) (r3 : Kd.C k140 w0 A3 l3.length l3) (r4 : Kd.C k142 w0 A4 l4.length l4)
    (q0 : l0.length ≤ c0) (q1 : l1.length ≤ c1) (q2 : l2.length ≤ c2) (q3 : l3.length ≤ c3) (q4 : l4.length ≤ c4) (m0 : l0.length ≤ 8 ∧ l1.length ≤ 16 ∧ l2.length ≤ 8 ∧ l3.length ≤ 8 ∧ l4.length ≤ 8) :
    ∃ fb bb rb cF cB, n0 ≤ fb ∧ n0 ≤ bb ∧ n0 ≤ rb ∧ Env w0 w x fb bb rb A0 A1 A2 A3 A4 c0 c1 c2 c3 c4 l0 l1 l2 l3 l4 ∧ Sys x fb bb rb A0 A1 A2 A3 A4 c0 c1 c2 c3 c4 cF cB vR l0 l1 l2 l3 l4 F Bd Rm mo fl w ∧ (0 < l4.length → ∃ cR, vR = .slice (some ⟨rb, 0, none⟩) l4.length cR) := by
  obtain ⟨h1, h2, h3, d1, d2, d3, ⟨a1, e1, t1, b1, f1⟩, ⟨a2, e2, t2, b2, f2⟩, ⟨a3, e3, t3, b3, f3⟩, n1, n2, n3⟩ := hg
  obtain ⟨cF, hvF⟩ := Row.form (RW.row h1 j1) (by omega)
  obtain ⟨cB, hvB⟩ := Row.form (RW.row h2 j2) (by omega)
  have hne1 := home_away h1 hbx (by decide) x1
  have hne2 := home_away h2 hbx (by decide) x2
  have hne3 := home_away h3 hbx (by decide) x3
  have hne4 := home_ne h1 h2 d1 n1 b1 f1 b2 f2
  have hne5 := home_ne h1 h3 d2 n2 b1 f1 b3 f3
  have hne6 := home_ne h2 h3 d3 n3 b2 f2 b3 f3
  have hrF := RW.row h1 j1
  have hrB := RW.row h2 j2
  have hrR := RW.row h3 j3
  have e1_ : Value.slice (some ⟨home vF j1, 0, none⟩) l0.length cF = vF := by rw [← hF]; exact hvF.symm
  have e2_ : Value.slice (some ⟨home vB j2, 0, none⟩) l0.length cB = vB := by rw [← hB]; exact hvB.symm
  refine ⟨home vF j1, home vB j2, home vR j3, cF, cB, home_le h1 a1, home_le h2 a2, home_le h3 a3, ⟨h0, Nat.le_trans hn0 hx, Nat.le_trans hn0 (home_le h1 a1), Nat.le_trans hn0 (home_le h2 a2), Nat.le_trans hn0 (home_le h3 a3), blk_lt hbx, home_lt h1 (blk_lt b1), home_lt h2 (blk_lt b2), home_lt h3 (blk_lt b3), hne1, hne2, hne3, hne4, hne5, hne6, r0, r1, r2, r3, r4, q0, q1, q2, q3, q4, m0⟩, ⟨?_, ?_, ?_, hrR⟩, ?_⟩
  · show w.heap[x]? = some (.cells #[_, _, _, _, _, .slice (some ⟨home vF j1, 0, none⟩) l0.length cF, .slice (some ⟨home vB j2, 0, none⟩) l0.length cB, vR, .int .i64 mo, .bool fl] 119 (0, 0))
    rw [e1_, e2_]; exact hbx
  · rw [e1_]; exact hrF
  · rw [e2_]; exact hrB
  · intro hp4
    obtain ⟨cR, hvR⟩ := Row.form hrR (by omega)
    exact ⟨cR, by rw [← hR]; exact hvR⟩
end
/-- The lengths of the gas's rows after a tick. -/
theorem getS_len : ∀ (l : List S142) (i : Int) (F R : List S32), (getS l i F R).1.length = F.length ∧ (getS l i F R).2.length = R.length
  | [], _, _, _ => ⟨rfl, rfl⟩
  | t :: l, i, F, R => by rw [getS]; have := getS_len l (i + 1) (F.set t.f0.toNat ⟨wrap64 ((rd_T32 F t.f0).f0 - mn (up_ (rd_T32 F t.f0).f0 t.f1.f1) (rd_T32 R i).f1), wrap64 ((rd_T32 F t.f0).f1 - mn (down (rd_T32 F t.f0).f1 t.f1.f0) (rd_T32 R i).f0)⟩) (R.set i.toNat ⟨mx 0 (wrap64 ((rd_T32 R i).f0 - up_ (rd_T32 F t.f0).f1 t.f1.f1)), mx 0 (wrap64 ((rd_T32 R i).f1 - down (rd_T32 F t.f0).f0 t.f1.f0))⟩); simpa only [List.length_set] using this
theorem cutS_len (mo : Int) : ∀ (k : Nat) (i : Int) (F : List S32), (cutS mo k i F).length = F.length
  | 0, _, _ => rfl
  | k + 1, i, F => by rw [cutS, cutS_len mo k, List.length_set]
theorem divS_len (M : List (Int × S32)) : ∀ (k : Nat) (i : Int) (F : List S32), (divS M k i F).length = F.length
  | 0, _, _ => rfl
  | k + 1, i, F => by rw [divS, divS_len M k, List.length_set]
theorem leakS_len : ∀ (l : List S140) (F : List S32), (leakS l F).length = F.length
  | [], _ => rfl
  | x :: l, F => by rw [leakS, leakS_len l, List.length_set]
theorem flowS_len (l0 : List S36) (l1 : List S138) (l2 : List S112) (l3 : List S140) (sh : List Int) (F : List S32) : (flowS l0 l1 l2 l3 sh F).length = F.length := by unfold flowS; rw [leakS_len, divS_len]
theorem tickS_len (l0 : List S36) (l1 : List S138) (l2 : List S112) (l3 : List S140) (l4 : List S142) (he : Int) (sh : List Int) (fs : Bool) (F Bd Rm : List S32) (mo : Int) (fl : Bool) :
    (tickS l0 l1 l2 l3 l4 he sh fs F Bd Rm mo fl).F.length = F.length ∧ (tickS l0 l1 l2 l3 l4 he sh fs F Bd Rm mo fl).Bd.length = Bd.length ∧ (tickS l0 l1 l2 l3 l4 he sh fs F Bd Rm mo fl).Rm.length = Rm.length := by
  unfold tickS
  simp only [cutS_len, relS_len2]
  cases fl || fs
  · simp only [Bool.false_eq_true, if_false, flowS_len, relS_len1, and_self]
  · simp only [if_true, (getS_len _ _ _ _).1, (getS_len _ _ _ _).2, flowS_len, relS_len1, and_self]
theorem begF_len : ∀ (l : List S36) (F B : List S32) (m : Int), (begF l F B m).1.length = F.length + l.length ∧ (begF l F B m).2.1.length = B.length + l.length
  | [], _, _, _ => ⟨rfl, rfl⟩
  | v :: l, F, B, m => by
    rw [begF]
    have := begF_len l (F ++ [v.f1]) (B ++ [v.f2]) (wrap64 (m + wrap64 (v.f1.f1 + v.f2.f1)))
    simp only [List.length_append, List.length_cons, List.length_nil] at this ⊢
    omega
theorem begR_len : ∀ (l : List S142) (R : List S32), (begR l R).length = R.length + l.length
  | [], _ => rfl
  | t :: l, R => by rw [begR, begR_len l]; simp only [List.length_append, List.length_cons, List.length_nil]; omega
end Go.Proofs.Ytkhnhkjihhhbbaa.P

