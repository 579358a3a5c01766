-- Written by this session's own program (wip/x/xprint.py, over the kit's printer); Lean checks it.
import Derived.Test.YtfnfpgbedlmneaaQFnExactClauseBytesx0
import Derived.Test.YtfnfpgbedlmneaaQFnExactClauseBytesx4
namespace Go.Proofs.Ytfnfpgbedlmneaa.QFnExactClauseBytes
open Go.RowKit Go.Proofs.YtfnfpgbedlmneaaW.PrintWords Go.Proofs.YtfnfpgbedlmneaaW.PrintLast Go.Proofs.YtfnfpgbedlmneaaW.PrintMore
attribute [local go_sem] max2_int min2_int max_two min_two max_three min_three max_four min_four   -- for this text's walks alone
set_option linter.unusedVariables false
set_option linter.unusedSimpArgs false

/-! ### impl_GoodClause: function 18 -/
def impl_GoodClause.f (k : Nat) (l0_0 : List Int) (l1 : List (S44)) : Option (Bool) := (impl_GoodSign.f l0_0).bind fun t205 => (if t205 = true then ((impl_Sign_isClause.f k l0_0 l1).bind fun t206 => (some t206)) else (some false))
theorem impl_GoodClause.mono : ∀ a0 a1 k, LeO (impl_GoodClause.f k a0 a1) (impl_GoodClause.f (k + 1) a0 a1) := by
  intro a0 a1 k
  unfold impl_GoodClause.f
  repeat' first
      | (with_reducible exact impl_Sign_isClause.mono _ _ _)
      | (with_reducible exact LeO.refl _)
      | (with_reducible exact LeO.none _)
      | (with_reducible refine LeO.ite ?_ ?_)
      | (with_reducible refine LeO.bind ?_ (fun _ => ?_))
      | exact impl_Sign_isClause.mono _ _ _
      | exact LeO.none _
      | refine LeO.ite ?_ ?_
      | refine LeO.bind ?_ (fun _ => ?_)
set_option maxHeartbeats 8000000 in
set_option maxRecDepth 100000 in
theorem impl_GoodClause.calls (k : Nat) (A0_0 : Option Addr) (c0_0 : Nat) (l0_0 : List Int) (A1 : Option Addr) (c1 : Nat) (l1 : List (S44)) (r : Bool) (w : World) (hr0_0 : Kd.C (Kd.int .i64) w A0_0 l0_0.length l0_0) (hc0_0 : l0_0.length ≤ c0_0) (hr1 : Kd.C k44 w A1 l1.length l1) (hc1 : l1.length ≤ c1) (h : impl_GoodClause.f k l0_0 l1 = some r) :
    Calls Try.prog 18 #[.agg #[.slice A0_0 l0_0.length c0_0], .slice A1 l1.length c1] w fun e w' => e = .returned (.bool r) ∧ Below w.heap.size w w' := by
  have hu30 := Try.underlying30
  have HR0_0 := Aside0.mk hr0_0
  have HC0_0 := Aside0.mk hc0_0
  clear hr0_0 hc0_0
  have HR1 := Aside0.mk hr1
  have HC1 := Aside0.mk hc1
  clear hr1 hc1
  have HB := Aside0.mk (Below.refl w.heap.size w)
  have H : ((impl_GoodSign.f l0_0).bind fun t205 => (if t205 = true then ((impl_Sign_isClause.f k l0_0 l1).bind fun t206 => (some t206)) else (some false))) = some r := h
  clear h
  replace H := Option.bind_eq_some_iff.mp H
  obtain ⟨t205, A30, H⟩ := H
  replace H : (if t205 = true then ((impl_Sign_isClause.f k l0_0 l1).bind fun t206 => (some t206)) else (some false)) = some r := H
  have A3 := Aside0.mk A30
  clear A30
  by_cases c4 : t205 = true
  · subst c4
    have H1 : ((impl_Sign_isClause.f k l0_0 l1).bind fun t206 => (some t206)) = some r := by rw [if_pos rfl] at H; exact H
    clear H
    have H := H1
    clear H1
    replace H := Option.bind_eq_some_iff.mp H
    obtain ⟨t206, A50, H⟩ := H
    replace H : (some t206) = some r := H
    have A5 := Aside0.mk A50
    clear A50
    obtain rfl := Option.some.inj H
    go_enter Try.func18, Try.ntmps18
    go_wp2_with (first | ((with_reducible refine gate_dst (N := 2) rfl ?_); refine box_event ?hg (N := 2) ?hd (cs := #[.slice A0_0 l0_0.length c0_0]) (t := 30) ?hr ?_; (case hd => rfl); (case hg => rfl); (case hr => first | (go_simp; done) | (go_simp; simp only [IntKind.wrap_u8]; done) | (go_simp; rfl)); intro gb204 hg w6 hbox hb; have n0_ := Aside0.mk (below_step (by repeat (first | (with_reducible first | exact HB.out | apply below_alloc | apply pw_below_drewN | apply below_drew1) | exact HB.out)) hb); have n1_ := Aside0.mk (hbox); have n2_ := Aside0.mk ((by rw [hg]; exact (below_size (by repeat (first | (with_reducible first | exact HB.out | apply below_alloc | apply pw_below_drewN | apply below_drew1) | exact HB.out))) : w.heap.size ≤ gb204)); have n3_ := Aside0.mk ((by rw [hg]; exact (below_size (by repeat (first | (with_reducible first | exact HB.out | apply below_alloc | apply pw_below_drewN | apply below_drew1) | exact HB.out))) : w.heap.size ≤ gb204)); clear HB; have HB := n0_; have BK204 := n1_; have GW204 := n2_; have GE204 := n3_; clear n0_ n1_ n2_ n3_; clear hb hbox hg; have hcz7_0 : w6.cell? ⟨gb204, 0, none⟩ = some (.slice A0_0 l0_0.length c0_0) := (blk_cell BK204.out 0).trans rfl; have hfz7_0 := blk_frozen BK204.out 0) | ((with_reducible refine gate_callee (f := 26) rfl ?_); refine goesL_ (some 6) rfl rfl Try.func26 (by kernel_rfl) rfl #[.agg #[.slice A0_0 l0_0.length c0_0]] rfl (by (try simp only [List.map_toArray, List.map_cons, List.map_nil]); first | done | rfl | (simp only [List.length_drop, List.length_take]; rfl)) ?_; (with_reducible refine (impl_GoodSign.calls _ _ l0_0 true _ ?side1 ?side2 A3.out).mono ?_); (case side1 => repeat (first | exact (Kd.C_below HR0_0.out HB.out) | (with_reducible refine Kd.C_alloc ?_ _) | (with_reducible refine Kd.C_drewN ?_ _) | (with_reducible refine Kd.C_drew ?_))); (case side2 => exact HC0_0.out); rintro e w8 ⟨rfl, hb⟩; refine ⟨_, rfl, ?_⟩; have n0_ := Aside0.mk (blk_below (g := gb204) (o := .cells #[.slice A0_0 l0_0.length c0_0] 30 (0, 0)) (by (with_reducible repeat (first | refine blk_drewN ?_ _ | refine blk_drew ?_ | refine blk_alloc ?_ _)); exact BK204.out) hb); have n1_ := Aside0.mk (below_step (by repeat (first | (with_reducible first | exact HB.out | apply below_alloc | apply pw_below_drewN | apply below_drew1 | refine below_set ?_ GE204.out) | exact HB.out)) hb); clear BK204; clear HB; have BK204 := n0_; have HB := n1_; clear n0_ n1_; (try clear hb); (try clear hb2); (try clear hk); (try clear hi); have hcz9_0 : w8.cell? ⟨gb204, 0, none⟩ = some (.slice A0_0 l0_0.length c0_0) := (blk_cell BK204.out 0).trans rfl; have hfz9_0 := blk_frozen BK204.out 0) | (go_at_call 27; (with_reducible refine (impl_Sign_isClause.calls k _ _ l0_0 _ _ l1 t206 _ ?side1 ?side2 ?side3 ?side4 A5.out).mono ?_); (case side1 => repeat (first | exact (Kd.C_below HR0_0.out HB.out) | (with_reducible refine Kd.C_alloc ?_ _) | (with_reducible refine Kd.C_drewN ?_ _) | (with_reducible refine Kd.C_drew ?_))); (case side2 => exact HC0_0.out); (case side3 => repeat (first | exact (Kd.C_below HR1.out HB.out) | (with_reducible refine Kd.C_alloc ?_ _) | (with_reducible refine Kd.C_drewN ?_ _) | (with_reducible refine Kd.C_drew ?_))); (case side4 => exact HC1.out); rintro e w10 ⟨rfl, hb⟩; have n0_ := Aside0.mk (blk_below (g := gb204) (o := .cells #[.slice A0_0 l0_0.length c0_0] 30 (0, 0)) (by (with_reducible repeat (first | refine blk_drewN ?_ _ | refine blk_drew ?_ | refine blk_alloc ?_ _)); exact BK204.out) hb); have n1_ := Aside0.mk (below_step (by repeat (first | (with_reducible first | exact HB.out | apply below_alloc | apply pw_below_drewN | apply below_drew1 | refine below_set ?_ GE204.out) | exact HB.out)) hb); clear BK204; clear HB; have BK204 := n0_; have HB := n1_; clear n0_ n1_; (try clear hb); (try clear hb2); (try clear hk); (try clear hi)))
    go_ret
    exact ⟨by first | rfl | (simp [errW_none, errW_some] <;> rfl) | (simp [*, errW_none, errW_some] <;> rfl), by repeat (first | (with_reducible first | exact HB.out | apply below_alloc | apply pw_below_drewN | apply below_drew1 | refine below_set ?_ GE204.out) | exact HB.out)⟩
  · replace c4 := Bool.eq_false_iff.mpr c4
    subst c4
    have H1 : (some false) = some r := by rw [if_neg (show ¬ (false = true) by decide)] at H; exact H
    clear H
    have H := H1
    clear H1
    obtain rfl := Option.some.inj H
    go_enter Try.func18, Try.ntmps18
    go_wp2_with (first | ((with_reducible refine gate_dst (N := 2) rfl ?_); refine box_event ?hg (N := 2) ?hd (cs := #[.slice A0_0 l0_0.length c0_0]) (t := 30) ?hr ?_; (case hd => rfl); (case hg => rfl); (case hr => first | (go_simp; done) | (go_simp; simp only [IntKind.wrap_u8]; done) | (go_simp; rfl)); intro gb204 hg w11 hbox hb; have n0_ := Aside0.mk (below_step (by repeat (first | (with_reducible first | exact HB.out | apply below_alloc | apply pw_below_drewN | apply below_drew1) | exact HB.out)) hb); have n1_ := Aside0.mk (hbox); have n2_ := Aside0.mk ((by rw [hg]; exact (below_size (by repeat (first | (with_reducible first | exact HB.out | apply below_alloc | apply pw_below_drewN | apply below_drew1) | exact HB.out))) : w.heap.size ≤ gb204)); have n3_ := Aside0.mk ((by rw [hg]; exact (below_size (by repeat (first | (with_reducible first | exact HB.out | apply below_alloc | apply pw_below_drewN | apply below_drew1) | exact HB.out))) : w.heap.size ≤ gb204)); clear HB; have HB := n0_; have BK204 := n1_; have GW204 := n2_; have GE204 := n3_; clear n0_ n1_ n2_ n3_; clear hb hbox hg; have hcz12_0 : w11.cell? ⟨gb204, 0, none⟩ = some (.slice A0_0 l0_0.length c0_0) := (blk_cell BK204.out 0).trans rfl; have hfz12_0 := blk_frozen BK204.out 0) | ((with_reducible refine gate_callee (f := 26) rfl ?_); refine goesL_ (some 6) rfl rfl Try.func26 (by kernel_rfl) rfl #[.agg #[.slice A0_0 l0_0.length c0_0]] rfl (by (try simp only [List.map_toArray, List.map_cons, List.map_nil]); first | done | rfl | (simp only [List.length_drop, List.length_take]; rfl)) ?_; (with_reducible refine (impl_GoodSign.calls _ _ l0_0 false _ ?side1 ?side2 A3.out).mono ?_); (case side1 => repeat (first | exact (Kd.C_below HR0_0.out HB.out) | (with_reducible refine Kd.C_alloc ?_ _) | (with_reducible refine Kd.C_drewN ?_ _) | (with_reducible refine Kd.C_drew ?_))); (case side2 => exact HC0_0.out); rintro e w13 ⟨rfl, hb⟩; refine ⟨_, rfl, ?_⟩; have n0_ := Aside0.mk (blk_below (g := gb204) (o := .cells #[.slice A0_0 l0_0.length c0_0] 30 (0, 0)) (by (with_reducible repeat (first | refine blk_drewN ?_ _ | refine blk_drew ?_ | refine blk_alloc ?_ _)); exact BK204.out) hb); have n1_ := Aside0.mk (below_step (by repeat (first | (with_reducible first | exact HB.out | apply below_alloc | apply pw_below_drewN | apply below_drew1 | refine below_set ?_ GE204.out) | exact HB.out)) hb); clear BK204; clear HB; have BK204 := n0_; have HB := n1_; clear n0_ n1_; (try clear hb); (try clear hb2); (try clear hk); (try clear hi)))
    go_ret
    exact ⟨by first | rfl | (simp [errW_none, errW_some] <;> rfl) | (simp [*, errW_none, errW_some] <;> rfl), by repeat (first | (with_reducible first | exact HB.out | apply below_alloc | apply pw_below_drewN | apply below_drew1 | refine below_set ?_ GE204.out) | exact HB.out)⟩

/-! ### impl_putVarint: function 39 -/
def impl_putVarint.l0 : Nat → List Int → Int → Option (List Int)
  | 0, _, _ => none
  | k + 1, x0, x1 => if x1 > 127 then (if x0.length < 140737488355328 then (impl_putVarint.l0 k (x0 ++ [((Int.tmod x1 128) + 128) % 256]) (wrap64 (Int.tdiv x1 128))) else (none)) else (if x0.length < 140737488355328 then (some (x0 ++ [(x1) % 256])) else (none))
def impl_putVarint.f (k : Nat) (l0 : List Int) (a1 : Int) : Option (List Int) := impl_putVarint.l0 k l0 a1
theorem impl_putVarint.mono_l : ∀ k, (∀ y0 y1, LeO (impl_putVarint.l0 k y0 y1) (impl_putVarint.l0 (k + 1) y0 y1))
  | 0 => fun _ _ r h => by simp [impl_putVarint.l0] at h
  | k + 1 => by
    have ih0 := impl_putVarint.mono_l k
    · intro y0 y1
      unfold impl_putVarint.l0
      repeat' first
      | (with_reducible exact ih0 _ _)
      | (with_reducible exact LeO.refl _)
      | (with_reducible exact LeO.none _)
      | (with_reducible refine LeO.ite ?_ ?_)
      | (with_reducible refine LeO.bind ?_ (fun _ => ?_))
      | exact ih0 _ _
      | exact LeO.none _
      | refine LeO.ite ?_ ?_
      | refine LeO.bind ?_ (fun _ => ?_)
theorem impl_putVarint.mono : ∀ a0 a1 k, LeO (impl_putVarint.f k a0 a1) (impl_putVarint.f (k + 1) a0 a1) := by
  intro a0 a1 k
  have ih0 := impl_putVarint.mono_l k
  unfold impl_putVarint.f
  repeat' first
      | (with_reducible exact ih0 _ _)
      | (with_reducible exact LeO.refl _)
      | (with_reducible exact LeO.none _)
      | (with_reducible refine LeO.ite ?_ ?_)
      | (with_reducible refine LeO.bind ?_ (fun _ => ?_))
      | exact ih0 _ _
      | exact LeO.none _
      | refine LeO.ite ?_ ?_
      | refine LeO.bind ?_ (fun _ => ?_)
set_option maxHeartbeats 8000000 in
set_option maxRecDepth 100000 in
theorem impl_putVarint.calls (k : Nat) (P0_ : Nat → Prop) (u9000_ : Value) (l0 : List Int) (a1 : Int) (r : List Int) (w0 w : World) (hB : Below w0.heap.size w0 w) (ho0 : Kd.R (Kd.int .u8) 5 w w0.heap.size P0_ u9000_ l0) (h : impl_putVarint.f k l0 a1 = some r) :
    Calls Try.prog 39 #[u9000_, .int .i64 a1] w fun e w' => ∃ v0_ : Value, e = .returned (v0_) ∧ Kd.R (Kd.int .u8) 5 w' w0.heap.size (fun k_ => (P0_ k_ ∨ w.heap.size ≤ k_)) v0_ r ∧ Below w0.heap.size w0 w' ∧ Kept w w' (fun k_ => P0_ k_) := by
  have HO0 := Aside0.mk (show Kd.R (Kd.int .u8) 5 w w0.heap.size (fun k_ => (P0_ k_ ∨ w.heap.size ≤ k_)) u9000_ l0 from Kd.R_mono ho0 (fun k_ hk => (.inl hk)))
  have HK := Aside0.mk (Kept.refl w (fun k_ => P0_ k_))
  have HW0 := Aside0.mk hB.size
  have HB := Aside0.mk hB
  clear hB
  have H : (impl_putVarint.l0 k l0 a1) = some r := h
  clear h
  have H' := Aside0.mk H
  clear H
  go_enter Try.func39, Try.ntmps39
  go_wp2
  go_loopg [0, 1] k (fun kq v0 v1 w' => ∃ (x0_1 : List Int) (x1_1 : Int), v1 = .int .i64 x1_1 ∧ Aside0 (impl_putVarint.l0 kq x0_1 x1_1 = some r) ∧ Aside0 (kq ≤ k) ∧ Aside0 (Kd.R (Kd.int .u8) 5 w' w0.heap.size (fun k_ => (P0_ k_ ∨ w.heap.size ≤ k_)) v0 x0_1) ∧ Aside0 (Kept w w' (fun k_ => P0_ k_)) ∧ Aside0 (Below w0.heap.size w0 w'))
  case atStart => exact ⟨(l0), (a1), (by first | rfl | (simp; done) | (simp [*]; done)), H', ⟨Nat.le_refl _⟩, ⟨by (with_reducible repeat (first | apply Kd.R_alloc | apply Kd.R_drewN | apply Kd.R_drew)); exact HO0.out⟩, ⟨by repeat (first | (with_reducible first | exact HK.out | apply Kept.alloc | apply Kept.drewN | apply Kept.drew) | exact HK.out)⟩, ⟨by repeat (first | (with_reducible first | exact HB.out | apply below_alloc | apply pw_below_drewN | apply below_drew1) | exact HB.out)⟩⟩
  case round =>
    clear H'
    try clear p2
    obtain ⟨x0_1, x1_1, rfl, HA, HK1, HO_0, HK, HB⟩ := hrel
    cases gk with
    | zero => exact absurd HA.out (by simp [impl_putVarint.l0])
    | succ k1 =>
      have H := HA.out
      clear HA
      simp only [impl_putVarint.l0] at H
      by_cases c3 : x1_1 > 127
      · rw [if_pos c3] at H
        have c3b0 : decide (127 < x1_1) = true := decide_eq_true c3
        clear c3
        by_cases c4 : x0_1.length < 140737488355328
        · rw [if_pos c4] at H
          have LMc4 := Aside0.mk c4
          clear c4
          obtain ⟨y207, hy207⟩ : ∃ y_ : List Int, y_ = (x0_1 ++ [((Int.tmod x1_1 128) + 128) % 256]) := ⟨_, rfl⟩
          replace H : (impl_putVarint.l0 k1 y207 (wrap64 (Int.tdiv x1_1 128))) = some r := by first | (rw [hy207]; with_reducible exact H) | (have H2_ := (Option.bind_some _ _).symm.trans H; rw [hy207]; with_reducible exact H2_) | (have H2_ := (Option.bind_some _ _).symm.trans H; with_reducible exact H2_) | with_reducible exact H | (rw [hy207]; exact H) | exact H
          have Ny207 := Aside0.mk hy207
          clear hy207
          have H' := Aside0.mk H
          clear H
          go_wp2_with (first | ((with_reducible refine gate_builtin (b := .append) (xs := #[.tmp 9, .tmp 14]) rfl ?_); at_builtin; refine Kd.R_append (Kd.int .u8) (w0 := w0) w0.heap.size rfl (.tmp 9) (.tmp 14) 46 5 (.int .u8 0) 1 rfl Try.underlying46 info5 rfl (by decide) (by first | decide | omega) u0 x0_1 (((Int.tmod x1_1 128) + 128) % 256) [.int .u8 (((Int.tmod x1_1 128) + 128) % 256)] (fun k_ => (P0_ k_ ∨ w.heap.size ≤ k_)) (fun _ => False) rfl rfl ?aP (fun _ hk => hk.elim) ?aF ?aO ?aB ?aS ?aL ?_; (case aP => exact rfl); (case aB => exact (by repeat (first | (with_reducible first | exact HB.out | apply below_alloc | apply pw_below_drewN | apply below_drew1) | exact HB.out))); (case aF => exact (fun k_ hk => (.inr (Nat.le_trans (by first | exact HK.out.1 | exact (show Kept w _ (fun k_ => P0_ k_) from by repeat (first | (with_reducible first | exact HK.out | apply Kept.alloc | apply Kept.drewN | apply Kept.drew) | exact HK.out)).1) hk)))); (case aO => exact (by (with_reducible repeat (first | apply Kd.R_alloc | apply Kd.R_drewN | apply Kd.R_drew)); exact HO_0.out)); (case aS => exact (below_size (by repeat (first | (with_reducible first | exact HB.out | apply below_alloc | apply pw_below_drewN | apply below_drew1) | exact HB.out)))); (case aL => have := LMc4.out; omega); intro v208 w5 ho hb hg hat; rw [← Ny207.out] at ho; have n0_ := Aside0.mk (hb); have n1_ := Aside0.mk (Kept.of_grown (S := (fun k_ => P0_ k_)) hg (by repeat (first | (with_reducible first | exact HK.out | apply Kept.alloc | apply Kept.drewN | apply Kept.drew) | exact HK.out)) (fun k_ e_ => (HO_0.out.1 k_ e_))); have n2_ := Aside0.mk (ho); clear HB; clear HK; clear HO_0; have HB := n0_; have HK := n1_; have HO209 := n2_; clear n0_ n1_ n2_; clear ho hb hg hat))
          go_roundg k1
          case measure => have := HK1.out; omega
          case rel => exact ⟨(y207), (wrap64 (Int.tdiv x1_1 128)), (by first | rfl | (simp; done) | (simp [*]; done)), H', ⟨by have := HK1.out; omega⟩, ⟨by (with_reducible repeat (first | apply Kd.R_alloc | apply Kd.R_drewN | apply Kd.R_drew)); exact HO209.out⟩, ⟨by repeat (first | (with_reducible first | exact HK.out | apply Kept.alloc | apply Kept.drewN | apply Kept.drew) | exact HK.out)⟩, ⟨by repeat (first | (with_reducible first | exact HB.out | apply below_alloc | apply pw_below_drewN | apply below_drew1) | exact HB.out)⟩⟩
        · rw [if_neg c4] at H
          exact absurd H (by simp)
      · rw [if_neg c3] at H
        have c3b0 : decide (127 < x1_1) = false := decide_eq_false c3
        clear c3
        by_cases c6 : x0_1.length < 140737488355328
        · rw [if_pos c6] at H
          have LMc6 := Aside0.mk c6
          clear c6
          obtain ⟨y210, hy210⟩ : ∃ y_ : List Int, y_ = (x0_1 ++ [(x1_1) % 256]) := ⟨_, rfl⟩
          replace H : (some y210) = some r := by first | (rw [hy210]; with_reducible exact H) | (have H2_ := (Option.bind_some _ _).symm.trans H; rw [hy210]; with_reducible exact H2_) | (have H2_ := (Option.bind_some _ _).symm.trans H; with_reducible exact H2_) | with_reducible exact H | (rw [hy210]; exact H) | exact H
          have Ny210 := Aside0.mk hy210
          clear hy210
          obtain rfl := Option.some.inj H
          go_wp2_with (first | ((with_reducible refine gate_builtin (b := .append) (xs := #[.tmp 16, .tmp 19]) rfl ?_); at_builtin; refine Kd.R_append (Kd.int .u8) (w0 := w0) w0.heap.size rfl (.tmp 16) (.tmp 19) 46 5 (.int .u8 0) 1 rfl Try.underlying46 info5 rfl (by decide) (by first | decide | omega) u0 x0_1 ((x1_1) % 256) [.int .u8 ((x1_1) % 256)] (fun k_ => (P0_ k_ ∨ w.heap.size ≤ k_)) (fun _ => False) rfl rfl ?aP (fun _ hk => hk.elim) ?aF ?aO ?aB ?aS ?aL ?_; (case aP => exact rfl); (case aB => exact (by repeat (first | (with_reducible first | exact HB.out | apply below_alloc | apply pw_below_drewN | apply below_drew1) | exact HB.out))); (case aF => exact (fun k_ hk => (.inr (Nat.le_trans (by first | exact HK.out.1 | exact (show Kept w _ (fun k_ => P0_ k_) from by repeat (first | (with_reducible first | exact HK.out | apply Kept.alloc | apply Kept.drewN | apply Kept.drew) | exact HK.out)).1) hk)))); (case aO => exact (by (with_reducible repeat (first | apply Kd.R_alloc | apply Kd.R_drewN | apply Kd.R_drew)); exact HO_0.out)); (case aS => exact (below_size (by repeat (first | (with_reducible first | exact HB.out | apply below_alloc | apply pw_below_drewN | apply below_drew1) | exact HB.out)))); (case aL => have := LMc6.out; omega); intro v211 w7 ho hb hg hat; rw [← Ny210.out] at ho; have n0_ := Aside0.mk (hb); have n1_ := Aside0.mk (Kept.of_grown (S := (fun k_ => P0_ k_)) hg (by repeat (first | (with_reducible first | exact HK.out | apply Kept.alloc | apply Kept.drewN | apply Kept.drew) | exact HK.out)) (fun k_ e_ => (HO_0.out.1 k_ e_))); have n2_ := Aside0.mk (ho); clear HB; clear HK; clear HO_0; have HB := n0_; have HK := n1_; have HO212 := n2_; clear n0_ n1_ n2_; clear ho hb hg hat))
          go_ret
          exact ⟨_, by first | rfl | (simp [errW_none, errW_some] <;> rfl) | (simp [*, errW_none, errW_some] <;> rfl), by (with_reducible repeat (first | apply Kd.R_alloc | apply Kd.R_drewN | apply Kd.R_drew)); exact HO212.out, by repeat (first | (with_reducible first | exact HB.out | apply below_alloc | apply pw_below_drewN | apply below_drew1) | exact HB.out), by repeat (first | (with_reducible first | exact HK.out | apply Kept.alloc | apply Kept.drewN | apply Kept.drew) | exact HK.out)⟩
        · rw [if_neg c6] at H
          exact absurd H (by simp)

/-! ### impl_ZigOf: function 45 -/
def impl_ZigOf.j0 : Nat → Int → Bool → Option (Int × Bool)
  | 0, _, _ => none
  | k + 1, x0, x9 => if x9 = true then (some (0, false)) else (if x0 < 0 then (some (wrap64 ((wrap64 ((-2) * x0)) - 1), true)) else (some (wrap64 (2 * x0), true)))
def impl_ZigOf.f (k : Nat) (a0 : Int) : Option (Int × Bool) := if a0 < (-536870911) then (impl_ZigOf.j0 k a0 true) else (impl_ZigOf.j0 k a0 (decide (a0 > 536870911)))
theorem impl_ZigOf.mono_l : ∀ k, (∀ y0 y1, LeO (impl_ZigOf.j0 k y0 y1) (impl_ZigOf.j0 (k + 1) y0 y1))
  | 0 => fun _ _ r h => by simp [impl_ZigOf.j0] at h
  | k + 1 => by
    have ih0 := impl_ZigOf.mono_l k
    · intro y0 y1
      unfold impl_ZigOf.j0
      repeat' first
      | (with_reducible exact ih0 _ _)
      | (with_reducible exact LeO.refl _)
      | (with_reducible exact LeO.none _)
      | (with_reducible refine LeO.ite ?_ ?_)
      | (with_reducible refine LeO.bind ?_ (fun _ => ?_))
      | exact ih0 _ _
      | exact LeO.none _
      | refine LeO.ite ?_ ?_
      | refine LeO.bind ?_ (fun _ => ?_)
theorem impl_ZigOf.mono : ∀ a0 k, LeO (impl_ZigOf.f k a0) (impl_ZigOf.f (k + 1) a0) := by
  intro a0 k
  have ih0 := impl_ZigOf.mono_l k
  unfold impl_ZigOf.f
  repeat' first
      | (with_reducible exact ih0 _ _)
      | (with_reducible exact LeO.refl _)
      | (with_reducible exact LeO.none _)
      | (with_reducible refine LeO.ite ?_ ?_)
      | (with_reducible refine LeO.bind ?_ (fun _ => ?_))
      | exact ih0 _ _
      | exact LeO.none _
      | refine LeO.ite ?_ ?_
      | refine LeO.bind ?_ (fun _ => ?_)
set_option maxHeartbeats 8000000 in
set_option maxRecDepth 100000 in
theorem impl_ZigOf.calls (k : Nat) (a0 : Int) (r1 : Int) (r2 : Bool) (w : World) (h : impl_ZigOf.f k a0 = some (r1, r2)) :
    Calls Try.prog 45 #[.int .i64 a0] w fun e w' => e = .returned (.tuple #[.int .i64 r1, .bool r2]) ∧ Drawn0 w w' := by
  have H : (if a0 < (-536870911) then (impl_ZigOf.j0 k a0 true) else (impl_ZigOf.j0 k a0 (decide (a0 > 536870911)))) = some (r1, r2) := h
  clear h
  have HC2 := Aside0.mk H
  clear H
  go_enter Try.func45, Try.ntmps45
  go_upto_region 1 with (fail)
  go_cut [9] (fun v9 wc => ∃ (kq : Nat) (x9_1 : Bool), v9 = .bool x9_1 ∧ Aside0 (impl_ZigOf.j0 kq a0 x9_1 = some (r1, r2)) ∧ Aside0 (kq ≤ k) ∧ Drawn0 w wc)
  case first =>
    have H := HC2.out
    clear HC2
    by_cases c3 : a0 < (-536870911)
    · rw [if_pos c3] at H
      have c3b0 : decide (a0 < (-536870911)) = true := decide_eq_true c3
      clear c3
      (first | rw [c3b0] | (simp only [i64_w, i32_w]; rw [c3b0]) | skip)
      have H' := Aside0.mk H
      clear H
      go_wp2
      go_meet
      case rel => exact ⟨_, (true), (by first | rfl | (simp; done) | (simp [*]; done)), H', ⟨by first | omega | exact Nat.le_refl _⟩, by repeat (first | exact Drawn0.refl _ | apply Drawn0.step)⟩
    · rw [if_neg c3] at H
      have c3b0 : decide (a0 < (-536870911)) = false := decide_eq_false c3
      clear c3
      (first | rw [c3b0] | (simp only [i64_w, i32_w]; rw [c3b0]) | skip)
      have H' := Aside0.mk H
      clear H
      go_wp2
      go_meet
      case rel => exact ⟨_, (decide (a0 > 536870911)), (by first | rfl | (simp; done) | (simp [*]; done)), H', ⟨by first | omega | exact Nat.le_refl _⟩, by repeat (first | exact Drawn0.refl _ | apply Drawn0.step)⟩
  case rest =>
    clear HC2
    try clear p2
    try clear c3
    try clear c3b0
    obtain ⟨kq, x9_1, rfl, HA, HJ1, ⟨mc1, rfl⟩⟩ := hcut
    cases kq with
    | zero => exact absurd HA.out (by simp [impl_ZigOf.j0])
    | succ kj1 =>
      have H := HA.out
      clear HA
      simp only [impl_ZigOf.j0] at H
      by_cases c4 : x9_1 = true
      · subst c4
        have H1 : (some (0, false)) = some (r1, r2) := by rw [if_pos rfl] at H; exact H
        clear H
        have H := H1
        clear H1
        simp only [Option.some.injEq, Prod.mk.injEq] at H
        obtain ⟨rfl, rfl⟩ := H
        go_wp2
        go_ret2
        exact ⟨by first | rfl | (simp; done) | (simp [*]; done), by repeat (first | exact Drawn0.refl _ | apply Drawn0.step)⟩
      · replace c4 := Bool.eq_false_iff.mpr c4
        subst c4
        have H1 : (if a0 < 0 then (some (wrap64 ((wrap64 ((-2) * a0)) - 1), true)) else (some (wrap64 (2 * a0), true))) = some (r1, r2) := by rw [if_neg (show ¬ (false = true) by decide)] at H; exact H
        clear H
        have H := H1
        clear H1
        by_cases c5 : a0 < 0
        · rw [if_pos c5] at H
          have c5b0 : decide (a0 < 0) = true := decide_eq_true c5
          clear c5
          simp only [Option.some.injEq, Prod.mk.injEq] at H
          obtain ⟨rfl, rfl⟩ := H
          go_wp2
          go_ret2
          exact ⟨by first | rfl | (simp; done) | (simp [*]; done), by repeat (first | exact Drawn0.refl _ | apply Drawn0.step)⟩
        · rw [if_neg c5] at H
          have c5b0 : decide (a0 < 0) = false := decide_eq_false c5
          clear c5
          simp only [Option.some.injEq, Prod.mk.injEq] at H
          obtain ⟨rfl, rfl⟩ := H
          go_wp2
          go_ret2
          exact ⟨by first | rfl | (simp; done) | (simp [*]; done), by repeat (first | exact Drawn0.refl _ | apply Drawn0.step)⟩

/-! ### impl_ListBytes: function 40 -/
mutual
def impl_ListBytes.l0 : Nat → List Int → Int → List Int → Int → Int → Option (ByteArray × Bool)
  | 0, _, _, _, _, _ => none
  | k + 1, x4, x5, x16, x17, x18 => if x18 < x17 then (if 0 ≤ x18 then (if x18 < (x16.length : Int) then (if (rd x16 x18) < (-1073741823) then (impl_ListBytes.j1 k x4 x5 (rd x16 x18) x16 x17 x18 true) else (impl_ListBytes.j1 k x4 x5 (rd x16 x18) x16 x17 x18 (decide ((rd x16 x18) > 1073741823)))) else (none)) else (none)) else (some (strOfNums x4, true))
def impl_ListBytes.j1 : Nat → List Int → Int → Int → List Int → Int → Int → Bool → Option (ByteArray × Bool)
  | 0, _, _, _, _, _, _, _ => none
  | k + 1, x4, x5, x7, x16, x17, x18, x27 => if x27 = true then (some ((⟨#[]⟩ : ByteArray), false)) else ((impl_ZigOf.f k (wrap64 (x7 - x5))).bind fun bt217 => (if bt217.2 = true then ((impl_putVarint.f k x4 bt217.1).bind fun t219 => (impl_ListBytes.l0 k t219 x7 x16 x17 (wrap64 (x18 + 1)))) else (some ((⟨#[]⟩ : ByteArray), false))))
end
def impl_ListBytes.f (k : Nat) (l0 : List Int) : Option (ByteArray × Bool) := if (l0.length : Int) > 200 then (some ((⟨#[]⟩ : ByteArray), false)) else ((impl_putVarint.f k ([] : List Int) (l0.length : Int)).bind fun t213 => (impl_ListBytes.l0 k t213 0 l0 (l0.length : Int) 0))
theorem impl_ListBytes.mono_l : ∀ k, (∀ y0 y1 y2 y3 y4, LeO (impl_ListBytes.l0 k y0 y1 y2 y3 y4) (impl_ListBytes.l0 (k + 1) y0 y1 y2 y3 y4)) ∧ (∀ y0 y1 y2 y3 y4 y5 y6, LeO (impl_ListBytes.j1 k y0 y1 y2 y3 y4 y5 y6) (impl_ListBytes.j1 (k + 1) y0 y1 y2 y3 y4 y5 y6))
  | 0 => ⟨fun _ _ _ _ _ r h => by simp [impl_ListBytes.l0] at h, fun _ _ _ _ _ _ _ r h => by simp [impl_ListBytes.j1] at h⟩
  | k + 1 => by
    obtain ⟨ih0, ih1⟩ := impl_ListBytes.mono_l k
    refine ⟨?_, ?_⟩
    · intro y0 y1 y2 y3 y4
      unfold impl_ListBytes.l0
      repeat' first
      | (with_reducible exact ih0 _ _ _ _ _)
      | (with_reducible exact ih1 _ _ _ _ _ _ _)
      | (with_reducible exact impl_ZigOf.mono _ _)
      | (with_reducible exact impl_putVarint.mono _ _ _)
      | (with_reducible exact LeO.refl _)
      | (with_reducible exact LeO.none _)
      | (with_reducible refine LeO.ite ?_ ?_)
      | (with_reducible refine LeO.bind ?_ (fun _ => ?_))
      | exact ih0 _ _ _ _ _
      | exact ih1 _ _ _ _ _ _ _
      | exact impl_ZigOf.mono _ _
      | exact impl_putVarint.mono _ _ _
      | exact LeO.none _
      | refine LeO.ite ?_ ?_
      | refine LeO.bind ?_ (fun _ => ?_)
    · intro y0 y1 y2 y3 y4 y5 y6
      unfold impl_ListBytes.j1
      repeat' first
      | (with_reducible exact ih0 _ _ _ _ _)
      | (with_reducible exact ih1 _ _ _ _ _ _ _)
      | (with_reducible exact impl_ZigOf.mono _ _)
      | (with_reducible exact impl_putVarint.mono _ _ _)
      | (with_reducible exact LeO.refl _)
      | (with_reducible exact LeO.none _)
      | (with_reducible refine LeO.ite ?_ ?_)
      | (with_reducible refine LeO.bind ?_ (fun _ => ?_))
      | exact ih0 _ _ _ _ _
      | exact ih1 _ _ _ _ _ _ _
      | exact impl_ZigOf.mono _ _
      | exact impl_putVarint.mono _ _ _
      | exact LeO.none _
      | refine LeO.ite ?_ ?_
      | refine LeO.bind ?_ (fun _ => ?_)
theorem impl_ListBytes.mono : ∀ a0 k, LeO (impl_ListBytes.f k a0) (impl_ListBytes.f (k + 1) a0) := by
  intro a0 k
  obtain ⟨ih0, ih1⟩ := impl_ListBytes.mono_l k
  unfold impl_ListBytes.f
  repeat' first
      | (with_reducible exact ih0 _ _ _ _ _)
      | (with_reducible exact ih1 _ _ _ _ _ _ _)
      | (with_reducible exact impl_ZigOf.mono _ _)
      | (with_reducible exact impl_putVarint.mono _ _ _)
      | (with_reducible exact LeO.refl _)
      | (with_reducible exact LeO.none _)
      | (with_reducible refine LeO.ite ?_ ?_)
      | (with_reducible refine LeO.bind ?_ (fun _ => ?_))
      | exact ih0 _ _ _ _ _
      | exact ih1 _ _ _ _ _ _ _
      | exact impl_ZigOf.mono _ _
      | exact impl_putVarint.mono _ _ _
      | exact LeO.none _
      | refine LeO.ite ?_ ?_
      | refine LeO.bind ?_ (fun _ => ?_)
set_option maxHeartbeats 8000000 in
set_option maxRecDepth 100000 in
theorem impl_ListBytes.calls (k : Nat) (A0 : Option Addr) (c0 : Nat) (l0 : List Int) (r1 : ByteArray) (r2 : Bool) (w : World) (hr0 : Kd.C (Kd.int .i64) w A0 l0.length l0) (hc0 : l0.length ≤ c0) (h : impl_ListBytes.f k l0 = some (r1, r2)) :
    Calls Try.prog 40 #[.slice A0 l0.length c0] w fun e w' => e = .returned (.tuple #[.string r1, .bool r2]) ∧ Below w.heap.size w w' := by
  have HR0 := Aside0.mk hr0
  have HC0 := Aside0.mk hc0
  clear hr0 hc0
  have HB := Aside0.mk (Below.refl w.heap.size w)
  have H : (if (l0.length : Int) > 200 then (some ((⟨#[]⟩ : ByteArray), false)) else ((impl_putVarint.f k ([] : List Int) (l0.length : Int)).bind fun t213 => (impl_ListBytes.l0 k t213 0 l0 (l0.length : Int) 0))) = some (r1, r2) := h
  clear h
  by_cases c2 : (l0.length : Int) > 200
  · rw [if_pos c2] at H
    have c2b0 : decide (200 < (l0.length : Int)) = true := decide_eq_true c2
    have c2b1 : decide (200 < l0.length) = true := decide_eq_true (by omega)
    clear c2
    simp only [Option.some.injEq, Prod.mk.injEq] at H
    obtain ⟨rfl, rfl⟩ := H
    go_enter Try.func40, Try.ntmps40
    go_wp2
    go_ret2
    exact ⟨by first | rfl | (simp [errW_none, errW_some] <;> rfl) | (simp [*, errW_none, errW_some] <;> rfl), by repeat (first | (with_reducible first | exact HB.out | apply below_alloc | apply pw_below_drewN | apply below_drew1) | exact HB.out)⟩
  · rw [if_neg c2] at H
    have c2b0 : decide (200 < (l0.length : Int)) = false := decide_eq_false c2
    have c2b1 : decide (200 < l0.length) = false := decide_eq_false (by omega)
    clear c2
    replace H := Option.bind_eq_some_iff.mp H
    obtain ⟨t213, A30, H⟩ := H
    replace H : (impl_ListBytes.l0 k t213 0 l0 (l0.length : Int) 0) = some (r1, r2) := H
    have A3 := Aside0.mk A30
    clear A30
    have H' := Aside0.mk H
    clear H
    go_enter Try.func40, Try.ntmps40
    go_wp2_with (first | ((with_reducible refine gate_callee (f := 39) rfl ?_); refine goesL_ (some 15) rfl rfl Try.func39 (by kernel_rfl) rfl #[.slice none 0 0, .int .i64 (l0.length : Int)] rfl (by (try simp only [List.map_toArray, List.map_cons, List.map_nil]); first | done | rfl | (simp only [List.length_drop, List.length_take]; rfl)) ?_; (refine (impl_putVarint.calls k (fun k_ => some k_ = (.slice none 0 0 : Value).ownBlock) (.slice none 0 0) ([] : List Int) (l0.length : Int) t213 w _ ?side1 ?side2 A3.out).mono ?_); (case side1 => repeat (first | (with_reducible first | exact HB.out | apply below_alloc | apply pw_below_drewN | apply below_drew1) | exact HB.out)); (case side2 => exact Kd.R_nil _ _ _ _ _); rintro e w4 ⟨v214, rfl, ho0, hb, hkp⟩; refine ⟨_, rfl, ?_⟩; have n0_ := Aside0.mk (Kd.R_mono (ok' := fun k_ => True) ho0 (fun k_ hk_ => trivial)); have n1_ := Aside0.mk (hb); clear HB; have HO215 := n0_; have HB := n1_; clear n0_ n1_; (try clear hb); (try clear hkp); (try clear ho0)))
    go_loopg [4, 5, 18] k (fun kq v4 v5 v18 w' => ∃ (x4_1 : List Int) (x5_1 : Int) (x18_1 : Int), v5 = .int .i64 x5_1 ∧ v18 = .int .i64 x18_1 ∧ Aside0 (impl_ListBytes.l0 kq x4_1 x5_1 l0 (l0.length : Int) x18_1 = some (r1, r2)) ∧ Aside0 (kq ≤ k) ∧ Aside0 (Kd.R (Kd.int .u8) 5 w' w.heap.size (fun _ => True) v4 x4_1) ∧ Aside0 (Below w.heap.size w w'))
    case atStart => exact ⟨(t213), (0), (0), (by first | rfl | (simp; done) | (simp [*]; done)), (by first | rfl | (simp; done) | (simp [*]; done)), H', ⟨Nat.le_refl _⟩, ⟨by (with_reducible repeat (first | apply Kd.R_alloc | apply Kd.R_drewN | apply Kd.R_drew)); exact HO215.out⟩, ⟨by repeat (first | (with_reducible first | exact HB.out | apply below_alloc | apply pw_below_drewN | apply below_drew1) | exact HB.out)⟩⟩
    case round =>
      clear H'
      try clear c2
      try clear c2b0
      try clear c2b1
      try clear p2
      try clear c3
      try clear c4
      obtain ⟨x4_1, x5_1, x18_1, rfl, rfl, HA, HK1, HO_4, HB⟩ := hrel
      cases gk with
      | zero => exact absurd HA.out (by simp [impl_ListBytes.l0])
      | succ k1 =>
        have H := HA.out
        clear HA
        simp only [impl_ListBytes.l0] at H
        by_cases c5 : x18_1 < (l0.length : Int)
        · rw [if_pos c5] at H
          have c5b0 : decide (x18_1 < (l0.length : Int)) = true := decide_eq_true c5
          clear c5
          by_cases c6 : 0 ≤ x18_1
          · rw [if_pos c6] at H
            have c6b0 : decide (0 ≤ x18_1) = true := decide_eq_true c6
            clear c6
            by_cases c7 : x18_1 < (l0.length : Int)
            · rw [if_pos c7] at H
              have c7b0 : decide (x18_1 < (l0.length : Int)) = true := decide_eq_true c7
              clear c7
              have HC8 := Aside0.mk H
              clear H
              have p216 : 0 ≤ (x18_1 : Int) := of_decide_eq_true (by first | (with_reducible assumption) | assumption)
              have q216 : x18_1 < (l0.length : Int) := of_decide_eq_true (by first | (with_reducible assumption) | assumption)
              obtain ⟨ad216, e216, hx216_0⟩ := Kd.at_int HR0.out x18_1 p216 q216
              cases e216
              replace hx216_0 := (HB.out.cell (World.block_lt_of_cell? w _ hx216_0)).trans hx216_0
              replace p216 := eq_true p216
              replace q216 := eq_true q216
              go_upto_region 8 with (fail)
              go_cut [27] (fun v27 wc => ∃ (kq : Nat) (x27_7 : Bool), v27 = .bool x27_7 ∧ Aside0 (impl_ListBytes.j1 kq x4_1 x5_1 (rd l0 x18_1) l0 (l0.length : Int) x18_1 x27_7 = some (r1, r2)) ∧ Aside0 (kq ≤ k1) ∧ Aside0 (Kd.R (Kd.int .u8) 5 wc w.heap.size (fun _ => True) u4 x4_1) ∧ Aside0 (Below w.heap.size w wc))
              case first =>
                have H := HC8.out
                clear HC8
                by_cases c9 : (rd l0 x18_1) < (-1073741823)
                · rw [if_pos c9] at H
                  have c9b0 : decide ((rd l0 x18_1) < (-1073741823)) = true := decide_eq_true c9
                  clear c9
                  (first | rw [c9b0] | (simp only [i64_w, i32_w]; rw [c9b0]) | skip)
                  have H' := Aside0.mk H
                  clear H
                  go_wp2
                  go_meet
                  case rel => exact ⟨_, (true), (by first | rfl | (simp; done) | (simp [*]; done)), H', ⟨by have := HK1.out; first | omega | exact Nat.le_refl _⟩, ⟨by (with_reducible repeat (first | apply Kd.R_alloc | apply Kd.R_drewN | apply Kd.R_drew)); exact HO_4.out⟩, ⟨by repeat (first | (with_reducible first | exact HB.out | apply below_alloc | apply pw_below_drewN | apply below_drew1) | exact HB.out)⟩⟩
                · rw [if_neg c9] at H
                  have c9b0 : decide ((rd l0 x18_1) < (-1073741823)) = false := decide_eq_false c9
                  clear c9
                  (first | rw [c9b0] | (simp only [i64_w, i32_w]; rw [c9b0]) | skip)
                  have H' := Aside0.mk H
                  clear H
                  go_wp2
                  go_meet
                  case rel => exact ⟨_, (decide ((rd l0 x18_1) > 1073741823)), (by first | rfl | (simp; done) | (simp [*]; done)), H', ⟨by have := HK1.out; first | omega | exact Nat.le_refl _⟩, ⟨by (with_reducible repeat (first | apply Kd.R_alloc | apply Kd.R_drewN | apply Kd.R_drew)); exact HO_4.out⟩, ⟨by repeat (first | (with_reducible first | exact HB.out | apply below_alloc | apply pw_below_drewN | apply below_drew1) | exact HB.out)⟩⟩
              case rest =>
                clear HC8
                try clear c2
                try clear c2b0
                try clear c2b1
                try clear p2
                try clear q2
                try clear hx2
                try clear c3
                try clear c4
                try clear c5
                try clear c5b0
                try clear c6
                try clear c6b0
                try clear c7
                try clear c7b0
                try clear c9
                try clear c9b0
                try clear hx216_0
                try clear p2
                try clear p216
                try clear q216
                obtain ⟨kq, x27_7, rfl, HA, HJ7, HO_4, HB⟩ := hcut
                cases kq with
                | zero => exact absurd HA.out (by simp [impl_ListBytes.j1])
                | succ kj7 =>
                  have H := HA.out
                  clear HA
                  simp only [impl_ListBytes.j1] at H
                  by_cases c10 : x27_7 = true
                  · subst c10
                    have H1 : (some ((⟨#[]⟩ : ByteArray), false)) = some (r1, r2) := by rw [if_pos rfl] at H; exact H
                    clear H
                    have H := H1
                    clear H1
                    simp only [Option.some.injEq, Prod.mk.injEq] at H
                    obtain ⟨rfl, rfl⟩ := H
                    go_wp2
                    go_ret2
                    exact ⟨by first | rfl | (simp [errW_none, errW_some] <;> rfl) | (simp [*, errW_none, errW_some] <;> rfl), by repeat (first | (with_reducible first | exact HB.out | apply below_alloc | apply pw_below_drewN | apply below_drew1) | exact HB.out)⟩
                  · replace c10 := Bool.eq_false_iff.mpr c10
                    subst c10
                    have H1 : ((impl_ZigOf.f kj7 (wrap64 ((rd l0 x18_1) - x5_1))).bind fun bt217 => (if bt217.2 = true then ((impl_putVarint.f kj7 x4_1 bt217.1).bind fun t219 => (impl_ListBytes.l0 kj7 t219 (rd l0 x18_1) l0 (l0.length : Int) (wrap64 (x18_1 + 1)))) else (some ((⟨#[]⟩ : ByteArray), false)))) = some (r1, r2) := by rw [if_neg (show ¬ (false = true) by decide)] at H; exact H
                    clear H
                    have H := H1
                    clear H1
                    replace H := Option.bind_eq_some_iff.mp H
                    obtain ⟨⟨t217, t218⟩, A110, H⟩ := H
                    replace H : (if t218 = true then ((impl_putVarint.f kj7 x4_1 t217).bind fun t219 => (impl_ListBytes.l0 kj7 t219 (rd l0 x18_1) l0 (l0.length : Int) (wrap64 (x18_1 + 1)))) else (some ((⟨#[]⟩ : ByteArray), false))) = some (r1, r2) := H
                    have A11 := Aside0.mk A110
                    clear A110
                    by_cases c12 : t218 = true
                    · subst c12
                      have H1 : ((impl_putVarint.f kj7 x4_1 t217).bind fun t219 => (impl_ListBytes.l0 kj7 t219 (rd l0 x18_1) l0 (l0.length : Int) (wrap64 (x18_1 + 1)))) = some (r1, r2) := by rw [if_pos rfl] at H; exact H
                      clear H
                      have H := H1
                      clear H1
                      replace H := Option.bind_eq_some_iff.mp H
                      obtain ⟨t219, A130, H⟩ := H
                      replace H : (impl_ListBytes.l0 kj7 t219 (rd l0 x18_1) l0 (l0.length : Int) (wrap64 (x18_1 + 1))) = some (r1, r2) := H
                      have A13 := Aside0.mk A130
                      clear A130
                      have H' := Aside0.mk H
                      clear H
                      go_wp2_with (first | ((with_reducible refine gate_callee (f := 45) rfl ?_); refine goesL_ (some 32) rfl rfl Try.func45 (by kernel_rfl) rfl #[.int .i64 (wrap64 ((rd l0 x18_1) - x5_1))] rfl (by (try simp only [List.map_toArray, List.map_cons, List.map_nil]); first | done | rfl | (simp only [List.length_drop, List.length_take]; rfl)) ?_; (with_reducible refine (impl_ZigOf.calls kj7 (wrap64 ((rd l0 x18_1) - x5_1)) t217 true _ A11.out).mono ?_); rintro e w' ⟨rfl, ⟨nd, rfl⟩⟩; refine ⟨_, rfl, ?_⟩; obtain ⟨Ao14, co14, eo14⟩ := Kd.R_slice HO_4.out; subst eo14) | ((with_reducible refine gate_callee (f := 39) rfl ?_); refine goesL_ (some 39) rfl rfl Try.func39 (by kernel_rfl) rfl #[.slice Ao14 x4_1.length co14, .int .i64 t217] rfl (by (try simp only [List.map_toArray, List.map_cons, List.map_nil]); first | done | rfl | (simp only [List.length_drop, List.length_take]; rfl)) ?_; (with_reducible refine (impl_putVarint.calls kj7 (fun k_ => some k_ = (.slice Ao14 x4_1.length co14 : Value).ownBlock) (.slice Ao14 x4_1.length co14) x4_1 t217 t219 w _ ?side1 ?side2 A13.out).mono ?_); (case side1 => repeat (first | (with_reducible first | exact HB.out | apply below_alloc | apply pw_below_drewN | apply below_drew1) | exact HB.out)); (case side2 => exact Kd.R_tight rfl HO_4.out); rintro e w15 ⟨v220, rfl, ho0, hb, hkp⟩; refine ⟨_, rfl, ?_⟩; have n0_ := Aside0.mk (Kd.R_mono (ok' := fun k_ => True) ho0 (fun k_ hk_ => trivial)); have n1_ := Aside0.mk (hb); clear HB; clear HO_4; have HO221 := n0_; have HB := n1_; clear n0_ n1_; (try clear hb); (try clear hkp); (try clear ho0)))
                      go_roundg kj7
                      case measure => have := HK1.out; have := HJ7.out; omega
                      case rel => exact ⟨(t219), ((rd l0 x18_1)), (wrap64 (x18_1 + 1)), (by first | rfl | (simp; done) | (simp [*]; done)), (by first | rfl | (simp; done) | (simp [*]; done)), H', ⟨by have := HK1.out; have := HJ7.out; omega⟩, ⟨by (with_reducible repeat (first | apply Kd.R_alloc | apply Kd.R_drewN | apply Kd.R_drew)); exact HO221.out⟩, ⟨by repeat (first | (with_reducible first | exact HB.out | apply below_alloc | apply pw_below_drewN | apply below_drew1) | exact HB.out)⟩⟩
                    · replace c12 := Bool.eq_false_iff.mpr c12
                      subst c12
                      have H1 : (some ((⟨#[]⟩ : ByteArray), false)) = some (r1, r2) := by rw [if_neg (show ¬ (false = true) by decide)] at H; exact H
                      clear H
                      have H := H1
                      clear H1
                      simp only [Option.some.injEq, Prod.mk.injEq] at H
                      obtain ⟨rfl, rfl⟩ := H
                      go_wp2_with (first | ((with_reducible refine gate_callee (f := 45) rfl ?_); refine goesL_ (some 32) rfl rfl Try.func45 (by kernel_rfl) rfl #[.int .i64 (wrap64 ((rd l0 x18_1) - x5_1))] rfl (by (try simp only [List.map_toArray, List.map_cons, List.map_nil]); first | done | rfl | (simp only [List.length_drop, List.length_take]; rfl)) ?_; (with_reducible refine (impl_ZigOf.calls kj7 (wrap64 ((rd l0 x18_1) - x5_1)) t217 false _ A11.out).mono ?_); rintro e w' ⟨rfl, ⟨nd, rfl⟩⟩; refine ⟨_, rfl, ?_⟩))
                      go_ret2
                      exact ⟨by first | rfl | (simp [errW_none, errW_some] <;> rfl) | (simp [*, errW_none, errW_some] <;> rfl), by repeat (first | (with_reducible first | exact HB.out | apply below_alloc | apply pw_below_drewN | apply below_drew1) | exact HB.out)⟩
            · rw [if_neg c7] at H
              exact absurd H (by simp)
          · rw [if_neg c6] at H
            exact absurd H (by simp)
        · rw [if_neg c5] at H
          have c5b0 : decide (x18_1 < (l0.length : Int)) = false := decide_eq_false c5
          clear c5
          simp only [Option.some.injEq, Prod.mk.injEq] at H
          obtain ⟨rfl, rfl⟩ := H
          have hcv16 := own_string (P := Try.prog) Try.underlying46 Try.underlying5 Try.underlying9 (Kd.own_of_R HO_4.out)
          go_wp2
          go_ret2
          exact ⟨by first | rfl | (simp [errW_none, errW_some] <;> rfl) | (simp [*, errW_none, errW_some] <;> rfl), by repeat (first | (with_reducible first | exact HB.out | apply below_alloc | apply pw_below_drewN | apply below_drew1) | exact HB.out)⟩

/-! ### impl_ClauseBytes: function 9, by a walk of this session's own -/
def sb (s : ByteArray) : List Int := s.data.toList.map fun b => (b.toNat : Int)
theorem own_ne {w : World} {B g n : Nat} {v : Value} {xs : List Value} {cs : Array Value} (h : w.ownsRow B 5 1 v n xs) (hs : w.heap[g]? = some (.cells cs 48 (0, 0))) : v.ownBlock ≠ some g := by
  intro e
  rcases h.2 with ⟨rfl, _⟩ | ⟨g', cap, cur, rfl, _, hg, _⟩
  · cases e
  · obtain rfl := Option.some.inj e
    rw [hg] at hs
    injection hs with hs
    injection hs with h1 h2 h3
    exact absurd h2 (by decide)
theorem own_neL {w : World} {B g n : Nat} {v : Value} {xs : List Value} {cs : Array Value} (h : w.ownsRow B 5 1 v n xs) (hs : w.heap[g]? = some (.cells cs 44 (0, 0))) : v.ownBlock ≠ some g := by
  intro e
  rcases h.2 with ⟨rfl, _⟩ | ⟨g', cap, cur, rfl, _, hg, _⟩
  · cases e
  · obtain rfl := Option.some.inj e
    rw [hg] at hs
    injection hs with hs
    injection hs with h1 h2 h3
    exact absurd h2 (by decide)
theorem own_sl {w : World} {B n : Nat} {v : Value} {xs : List Value} (h : w.ownsRow B 5 1 v n xs) : ∃ A m c, v = .slice A m c := by
  rcases h.2 with ⟨rfl, _⟩ | ⟨g', cap, cur, rfl, _⟩
  · exact ⟨none, 0, 0, rfl⟩
  · exact ⟨_, _, _, rfl⟩
/-- A writer in block g: what it has written, in a row of the call's own. -/
structure WAt (w0 w : World) (g : Nat) (v : Value) (b : Bool) (l : List Int) : Prop where
  st : w.heap[g]? = some (.cells #[v, .bool b] 48 (0, 0))
  le : w0.heap.size ≤ g
  own : Kd.R (Kd.int .u8) 5 w w0.heap.size (fun _ => True) v l
  bw : Below w0.heap.size w0 w
def WAtE (w0 w : World) (g : Nat) (l : List Int) : Prop := ∃ (v : Value) (b : Bool), WAt w0 w g v b l
theorem WAt.ow {w0 w : World} {g : Nat} {v : Value} {b : Bool} {l : List Int} (h : WAt w0 w g v b l) : w.ownsRow w0.heap.size 5 1 v l.length (nums .u8 l) := Kd.own_of_R h.own
theorem WAt.below {w0 w w1 : World} {g : Nat} {v : Value} {b : Bool} {l : List Int} (h : WAt w0 w g v b l) (hb : Below w.heap.size w w1) : WAt w0 w1 g v b l := ⟨blk_below h.st hb, h.le, Kd.R_below h.own hb, below_step h.bw hb⟩
theorem WAt.put {w0 w : World} {g : Nat} {v v1 : Value} {b : Bool} {r : List Int} (hs : w.heap[g]? = some (.cells #[v, .bool b] 48 (0, 0))) (hl : w0.heap.size ≤ g) (ho : w.ownsRow w0.heap.size 5 1 v1 r.length (nums .u8 r)) (hb : Below w0.heap.size w0 w) : WAt w0 (w.setCell ⟨g, 0, none⟩ v1) g v1 b r :=
  ⟨blk_put hs 0 _ rfl, hl, Kd.R_of_own (enc := Value.int .u8) (h1 := fun _ => rfl) (ownsRow_setCell_other ho (own_ne ho hs) _) (fun _ _ => trivial), Below.setCell hb hl _⟩
theorem WAt.bad {w0 w : World} {g : Nat} {v : Value} {b b' : Bool} {l : List Int} (h : WAt w0 w g v b l) : WAt w0 (w.setCell ⟨g, 1, none⟩ (.bool b')) g v b' l :=
  ⟨blk_put h.st 1 _ rfl, h.le, Kd.R_of_own (enc := Value.int .u8) (h1 := fun _ => rfl) (ownsRow_setCell_other h.ow (own_ne h.ow h.st) _) (fun _ _ => trivial), Below.setCell h.bw h.le _⟩
set_option maxHeartbeats 4000000 in
set_option maxRecDepth 1000000 in
theorem Try.number_walk (k : Nat) (l : List Int) (n : Int) (r : List Int) (g : Nat) (v : Value) (b : Bool) (w0 w : World) (hs : WAt w0 w g v b l) (h : impl_putVarint.f k l n = some r) :
    Calls Try.prog 28 #[.pointer (some ⟨g, 0, none⟩), .int .i64 n] w fun e w' => e = .returned (.tuple #[]) ∧ (∃ v' : Value, WAt w0 w' g v' b r) ∧ Kept w w' (fun k_ => k_ = g ∨ v.ownBlock = some k_) := by
  have hR : Kd.R (Kd.int .u8) 5 w w0.heap.size (fun k_ => v.ownBlock = some k_) v l := Kd.R_of_own (enc := Value.int .u8) (h1 := fun _ => rfl) hs.ow (fun k_ hk => hk)
  have hcall := impl_putVarint.calls k (fun k_ => v.ownBlock = some k_) v l n r w0 w hs.bw hR h
  have hcell : w.cell? ⟨g, 0, none⟩ = some v := (blk_cell hs.st 0).trans rfl
  have hne := Aside0.mk (own_ne hs.ow hs.st)
  have hst := Aside0.mk hs.st
  have hle := Aside0.mk hs.le
  clear hR hs h
  go_enter Try.func28, Try.ntmps28
  go_wp2_with (go_at_call 39; refine hcall.mono ?_)
  rintro e W1 ⟨v1, rfl, hR1, hB1, hK1⟩
  have ho1 := Kd.own_of_R hR1
  obtain ⟨A1, c1, he1⟩ := Kd.R_slice hR1
  have hst1 := Aside0.mk (blk_kept hst.out hK1 hne.out)
  have hcell1 : W1.cell? ⟨g, 0, none⟩ = some v := (blk_cell hst1.out 0).trans rfl
  have hfro1 : W1.frozen? ⟨g, 0, none⟩ = false := blk_frozen hst1.out 0
  have hfin : Aside0 (WAt w0 (W1.setCell ⟨g, 0, none⟩ v1) g v1 b r) := ⟨WAt.put hst1.out hle.out ho1 hB1⟩
  have hkp : Aside0 (Kept w (W1.setCell ⟨g, 0, none⟩ v1) (fun k_ => k_ = g ∨ v.ownBlock = some k_)) := ⟨Kept.setCell (Kept.mono hK1 (fun k_ hk => .inr hk)) (.inl (.inl rfl)) _⟩
  clear hR1 hK1 ho1 hst hcell hcall hB1 hst1 hne
  subst he1
  go_wp2
  go_end0
  exact ⟨rfl, ⟨_, hfin.out⟩, hkp.out⟩
set_option maxHeartbeats 4000000 in
set_option maxRecDepth 1000000 in
theorem Try.list_walk (k : Nat) (l : List Int) (A0 : Option Addr) (c0 : Nat) (xs : List Int) (r1 : ByteArray) (r2 : Bool) (g : Nat) (v : Value) (b : Bool) (w0 w : World) (hs : WAt w0 w g v b l) (hr : Kd.C (Kd.int .i64) w A0 xs.length xs) (hc : xs.length ≤ c0) (h : impl_ListBytes.f k xs = some (r1, r2)) (hb : l.length + r1.size ≤ 100000000) :
    Calls Try.prog 29 #[.pointer (some ⟨g, 0, none⟩), .slice A0 xs.length c0] w fun e w' => e = .returned (.tuple #[]) ∧ WAtE w0 w' g (l ++ sb r1) ∧ Kept w w' (fun k_ => k_ = g ∨ v.ownBlock = some k_) := by
  obtain ⟨i0, hi, hz0, hz1, hz2⟩ := info_parts info5
  have hcall := impl_ListBytes.calls k A0 c0 xs r1 r2 w hr hc h
  have hs0 := Aside0.mk hs
  clear hs h hr
  go_enter Try.func29, Try.ntmps29
  go_wp2_with (go_at_call 40; refine hcall.mono ?_)
  rintro e W1 ⟨rfl, hB1⟩
  have hs1 := Aside0.mk (WAt.below hs0.out hB1)
  have hk1 : Aside0 (Kept w W1 (fun k_ => k_ = g ∨ v.ownBlock = some k_)) := ⟨Kept.of_below hB1 _⟩
  have hcell1 : W1.cell? ⟨g, 0, none⟩ = some v := (blk_cell hs1.out.st 0).trans rfl
  have hown1 : Hid (W1.ownsRow w0.heap.size 5 1 v l.length (nums .u8 l)) := hs1.out.ow
  clear hcall hB1 hs0
  go_wp2_with (first
    | (at_builtin; refine Lib.wpList_append_own_string _ rfl (.tmp 15) (.tmp 16) 46 9 rfl w0.heap.size 5 i0 Try.underlying46 Try.underlying9 hi hz0 hz1 hz2 v l.length (nums .u8 l) rfl hown1 r1 rfl ?c1 ?c2 ?c3 ?_)
    | go_in)
  case c1 => unfold maxLen; omega
  case c2 => omega
  case c3 => exact Nat.le_trans hs1.out.le (Nat.le_of_lt (blk_lt hs1.out.st))
  · intro v2 W2 hown2 hgrow2 _
    obtain ⟨A2, m2, p2, he2⟩ := own_sl hown2
    have hnv : some g ≠ v.ownBlock := fun e => own_ne hown1 hs1.out.st e.symm
    have hst2 := blk_grown hs1.out.st hgrow2 hnv
    have hb2 : Below w0.heap.size w0 W2 := Below.grown hs1.out.bw hgrow2 (Nat.le_trans hs1.out.le (Nat.le_of_lt (blk_lt hs1.out.st))) (fun k_ hk_ => (World.ownsRow.lt hown1 k_ hk_).1)
    have hk2 : Kept w W2 (fun k_ => k_ = g ∨ v.ownBlock = some k_) := Kept.of_grown hgrow2 hk1.out (fun k_ hk_ => .inl (.inr hk_))
    have hown2' : W2.ownsRow w0.heap.size 5 1 v2 (l ++ sb r1).length (nums .u8 (l ++ sb r1)) := by
      have e1 : nums .u8 (l ++ sb r1) = nums .u8 l ++ Lib.strCells r1 := by simp [nums, sb, Lib.strCells]
      have e2 : (l ++ sb r1).length = l.length + r1.size := by simp [sb]
      rw [e1, e2]; exact hown2
    have hput : Aside0 (WAt w0 (W2.setCell ⟨g, 0, none⟩ v2) g v2 b (l ++ sb r1)) := ⟨WAt.put hst2 hs1.out.le hown2' hb2⟩
    have hk3 : Aside0 (Kept w (W2.setCell ⟨g, 0, none⟩ v2) (fun k_ => k_ = g ∨ v.ownBlock = some k_)) := ⟨Kept.setCell hk2 (.inl (.inl rfl)) _⟩
    have hcell2 : W2.cell? ⟨g, 0, none⟩ = some v := (blk_cell hst2 0).trans rfl
    have hfro2 : W2.frozen? ⟨g, 0, none⟩ = false := blk_frozen hst2 0
    have hcell3 : (W2.setCell ⟨g, 0, none⟩ v2).cell? ⟨g, 1, none⟩ = some (.bool b) := (blk_cell hput.out.st 1).trans rfl
    have hfro3 : (W2.setCell ⟨g, 0, none⟩ v2).frozen? ⟨g, 1, none⟩ = false := blk_frozen hput.out.st 1
    clear hown2 hgrow2 hst2 hb2 hk2 hown2' hown1 hcell1 hs1 hk1 hnv
    subst he2
    generalize hW3 : W2.setCell ⟨g, 0, none⟩ (.slice A2 m2 p2) = W3 at hput hk3 hcell3 hfro3
    cases b with
    | true =>
      go_wp2
      go_end0
      exact ⟨rfl, ⟨_, _, WAt.bad hput.out⟩, Kept.setCell hk3.out (.inl (.inl rfl)) _⟩
    | false =>
      cases r2 with
      | true =>
        go_wp2
        go_end0
        exact ⟨rfl, ⟨_, _, WAt.bad hput.out⟩, Kept.setCell hk3.out (.inl (.inl rfl)) _⟩
      | false =>
        go_wp2
        go_end0
        exact ⟨rfl, ⟨_, _, WAt.bad hput.out⟩, Kept.setCell hk3.out (.inl (.inl rfl)) _⟩
def wrow (k : Nat) (l row : List Int) : Option (List Int) := (impl_ListBytes.f k row).bind fun p => if l.length + p.1.size ≤ 100000000 then some (l ++ sb p.1) else none
def wlit (k : Nat) (l : List Int) (x : S44) : Option (List Int) := (impl_putVarint.f k l (if x.f0 = true then 1 else 0)).bind fun l1 => (wrow k l1 x.f1).bind fun l2 => wrow k l2 x.f2
/-- What is written of literals. -/
def wlits (k : Nat) : List Int → List S44 → Option (List Int)
  | l, [] => some l
  | l, x :: t => (wlit k l x).bind fun l' => wlits k l' t
theorem wrow_some {k : Nat} {l row r : List Int} (h : wrow k l row = some r) : ∃ p1 p2, impl_ListBytes.f k row = some (p1, p2) ∧ l.length + p1.size ≤ 100000000 ∧ r = l ++ sb p1 := by
  unfold wrow at h
  obtain ⟨⟨p1, p2⟩, h1, h2⟩ := Option.bind_eq_some_iff.1 h
  by_cases g : l.length + p1.size ≤ 100000000
  · rw [if_pos g] at h2; exact ⟨p1, p2, h1, g, (Option.some.inj h2).symm⟩
  · rw [if_neg g] at h2; cases h2
theorem WAt.alloc {w0 w : World} {g : Nat} {v : Value} {b : Bool} {l : List Int} (h : WAt w0 w g v b l) (o : Obj) : WAt w0 (w.alloc o) g v b l := h.below (below_alloc (Below.refl _ _) _)
set_option maxHeartbeats 8000000 in
set_option maxRecDepth 1000000 in
theorem Try.clause_walk (k : Nat) (l l1 fin : List Int) (A0 : Option Addr) (c0 b off : Nat) (c : List S44) (g : Nat) (v : Value) (bd : Bool) (w0 w : World) (hs : WAt w0 w g v bd l) (hA : 0 < c.length → A0 = some ⟨b, off, none⟩) (hn : c.length ≤ 1000000)
    (hc : ∀ j, j < c.length → ∃ (A1 : Option Addr) (c1 : Nat) (A2 : Option Addr) (c2 : Nat), w0.cell? ⟨b, off + j * 3, none⟩ = some (.bool (rd_T44 c (j : Int)).f0) ∧ w0.cell? ⟨b, off + j * 3 + 1, none⟩ = some (.slice A1 (rd_T44 c (j : Int)).f1.length c1) ∧ w0.cell? ⟨b, off + j * 3 + 2, none⟩ = some (.slice A2 (rd_T44 c (j : Int)).f2.length c2) ∧
      (rd_T44 c (j : Int)).f1.length ≤ c1 ∧ Kd.C (Kd.int .i64) w0 A1 (rd_T44 c (j : Int)).f1.length (rd_T44 c (j : Int)).f1 ∧ (rd_T44 c (j : Int)).f2.length ≤ c2 ∧ Kd.C (Kd.int .i64) w0 A2 (rd_T44 c (j : Int)).f2.length (rd_T44 c (j : Int)).f2)
    (h1 : impl_putVarint.f k l (c.length : Int) = some l1) (h2 : wlits k l1 c = some fin) :
    Calls Try.prog 19 #[.pointer (some ⟨g, 0, none⟩), .slice A0 c.length c0] w fun e w' => e = .returned (.tuple #[]) ∧ WAtE w0 w' g fin := by
  have hcall := Try.number_walk k l (c.length : Int) l1 g v bd w0 w hs h1
  have hf2 : Hid (wlits k l1 c = some fin) := h2
  clear hs h1 h2
  go_enter Try.func19, Try.ntmps19
  go_wp2_with (go_at_call 28; refine hcall.mono ?_)
  rintro e W1 ⟨rfl, ⟨v1, hs1⟩, _⟩
  have hs1' : Hid (WAt w0 W1 g v1 bd l1) := hs1
  clear hs1 hcall
  go_wp2
  go_loopw [13] (fun vi wr => ∃ (i : Nat) (vw : Value) (bw : Bool) (lw : List Int), vi = .int .i64 i ∧ i ≤ c.length ∧ Hid (wlits k lw (c.drop i) = some fin) ∧ Hid (WAt w0 wr g vw bw lw)) (fun vi _ => c.length - (intOf vi).toNat)
  case atStart => exact ⟨0, v1, bd, l1, rfl, Nat.zero_le _, hf2, hs1'⟩
  case round =>
    clear hs1' hf2
    obtain ⟨i, vw, bw, lw, rfl, hil, hli, hsw⟩ := hrel
    by_cases hin : i < c.length
    · obtain rfl := hA (by omega)
      obtain ⟨A1, c1, A2, c2, k0, k1, k2, q1, r1, q2, r2⟩ := hc i hin
      have hdrop : c.drop i = rd_T44 c (i : Int) :: c.drop (i + 1) := by
        unfold rd_T44
        rw [Int.toNat_natCast, List.drop_eq_getElem_cons hin, List.getD_eq_getElem?_getD, List.getElem?_eq_getElem hin]; rfl
      have hbb : b < w0.heap.size := World.block_lt_of_cell? w0 _ k0
      generalize rd_T44 c (i : Int) = X at k0 k1 k2 q1 r1 q2 r2 hdrop
      unfold Hid at hli
      rw [hdrop, wlits] at hli
      obtain ⟨l', e1, e2⟩ := Option.bind_eq_some_iff.1 hli
      unfold wlit at e1
      obtain ⟨la, ea, e1⟩ := Option.bind_eq_some_iff.1 e1
      obtain ⟨lb, eb, ec⟩ := Option.bind_eq_some_iff.1 e1
      obtain ⟨p1, p2, f1, f2, rfl⟩ := wrow_some eb
      obtain ⟨s1, s2, g1, g2, rfl⟩ := wrow_some ec
      have e2' : Hid (wlits k (la ++ sb p1 ++ sb s1) (c.drop (i + 1)) = some fin) := e2
      clear hli hdrop e1 e2 eb ec
      have y0 : wr.cell? ⟨b, off + i * 3, none⟩ = some (.bool X.f0) := (Below.cell hsw.bw hbb).trans k0
      have y1 : wr.cell? ⟨b, off + i * 3 + 1, none⟩ = some (.slice A1 X.f1.length c1) := (Below.cell hsw.bw hbb).trans k1
      have y2 : wr.cell? ⟨b, off + i * 3 + 2, none⟩ = some (.slice A2 X.f2.length c2) := (Below.cell hsw.bw hbb).trans k2
      have hgl : g < wr.heap.size := blk_lt hsw.st
      have hsA : Hid (WAt w0 (wr.alloc (.cells #[.bool X.f0, .slice A1 X.f1.length c1, .slice A2 X.f2.length c2] 44)) g vw bw lw) := WAt.alloc hsw _
      have hbox : Hid ((wr.alloc (.cells #[.bool X.f0, .slice A1 X.f1.length c1, .slice A2 X.f2.length c2] 44)).heap[wr.heap.size]? = some (.cells #[.bool X.f0, .slice A1 X.f1.length c1, .slice A2 X.f2.length c2] 44 (0, 0))) := blk_new wr _
      have hr1 : Hid (Kd.C (Kd.int .i64) w0 A1 X.f1.length X.f1) := r1
      have hr2 : Hid (Kd.C (Kd.int .i64) w0 A2 X.f2.length X.f2) := r2
      clear k0 k1 k2 r1 r2 hc
      have hcall1 := Try.number_walk k lw _ la g vw bw w0 _ hsA ea
      obtain ⟨x0, rx1, rx2⟩ := X
      simp only at y0 y1 y2 hsA hbox hr1 hr2 hcall1 f1 g1 q1 q2
      cases x0 with
      | true =>
        go_wp2_with (go_at_call 28; refine hcall1.mono ?_)
        first | rintro e W1 rfl v1 hs1 hK1 | rintro e W1 ⟨rfl, ⟨v1, hs1⟩, hK1⟩
        have hbox1 : Hid (W1.heap[wr.heap.size]? = some (.cells #[.bool true, .slice A1 rx1.length c1, .slice A2 rx2.length c2] 44 (0, 0))) := blk_kept hbox hK1 (fun h => h.elim (fun h => by omega) (fun h => own_neL hsA.ow hbox h))
        have z1 : W1.cell? ⟨wr.heap.size, 1, none⟩ = some (.slice A1 rx1.length c1) := (blk_cell hbox1 1).trans rfl
        have hcall2 := Try.list_walk k la A1 c1 rx1 p1 p2 g v1 bw w0 W1 hs1 (Kd.C_below hr1 hs1.bw) q1 f1 f2
        have hs1' : Hid (WAt w0 W1 g v1 bw la) := hs1
        clear hs1 hK1 hcall1 hbox hsA
        go_wp2_with (go_at_call 29; refine hcall2.mono ?_)
        first | rintro e W2 rfl ⟨v2, b2, hs2⟩ hK2 | rintro e W2 ⟨rfl, ⟨v2, b2, hs2⟩, hK2⟩
        have hbox2 : Hid (W2.heap[wr.heap.size]? = some (.cells #[.bool true, .slice A1 rx1.length c1, .slice A2 rx2.length c2] 44 (0, 0))) := blk_kept hbox1 hK2 (fun h => h.elim (fun h => by omega) (fun h => own_neL hs1'.ow hbox1 h))
        have z2 : W2.cell? ⟨wr.heap.size, 2, none⟩ = some (.slice A2 rx2.length c2) := (blk_cell hbox2 2).trans rfl
        have hcall3 := Try.list_walk k (la ++ sb p1) A2 c2 rx2 s1 s2 g v2 b2 w0 W2 hs2 (Kd.C_below hr2 hs2.bw) q2 g1 g2
        clear hs2 hK2 hcall2 hbox1 hs1' z1
        go_wp2_with (go_at_call 29; refine hcall3.mono ?_)
        first | rintro e W3 rfl ⟨v3, b3, hs3⟩ hK3 | rintro e W3 ⟨rfl, ⟨v3, b3, hs3⟩, hK3⟩
        clear hK3
        have hs3' : Hid (WAt w0 W3 g v3 b3 (la ++ sb p1 ++ sb s1)) := hs3
        clear hs3 hcall3 hbox2 z2
        go_wp2
        go_roundw
        case rel => exact ⟨i + 1, v3, b3, _, rfl, by omega, e2', hs3'⟩
        case measure => simp [intOf]; omega
      | false =>
        go_wp2_with (go_at_call 28; refine hcall1.mono ?_)
        first | rintro e W1 rfl v1 hs1 hK1 | rintro e W1 ⟨rfl, ⟨v1, hs1⟩, hK1⟩
        have hbox1 : Hid (W1.heap[wr.heap.size]? = some (.cells #[.bool false, .slice A1 rx1.length c1, .slice A2 rx2.length c2] 44 (0, 0))) := blk_kept hbox hK1 (fun h => h.elim (fun h => by omega) (fun h => own_neL hsA.ow hbox h))
        have z1 : W1.cell? ⟨wr.heap.size, 1, none⟩ = some (.slice A1 rx1.length c1) := (blk_cell hbox1 1).trans rfl
        have hcall2 := Try.list_walk k la A1 c1 rx1 p1 p2 g v1 bw w0 W1 hs1 (Kd.C_below hr1 hs1.bw) q1 f1 f2
        have hs1' : Hid (WAt w0 W1 g v1 bw la) := hs1
        clear hs1 hK1 hcall1 hbox hsA
        go_wp2_with (go_at_call 29; refine hcall2.mono ?_)
        first | rintro e W2 rfl ⟨v2, b2, hs2⟩ hK2 | rintro e W2 ⟨rfl, ⟨v2, b2, hs2⟩, hK2⟩
        have hbox2 : Hid (W2.heap[wr.heap.size]? = some (.cells #[.bool false, .slice A1 rx1.length c1, .slice A2 rx2.length c2] 44 (0, 0))) := blk_kept hbox1 hK2 (fun h => h.elim (fun h => by omega) (fun h => own_neL hs1'.ow hbox1 h))
        have z2 : W2.cell? ⟨wr.heap.size, 2, none⟩ = some (.slice A2 rx2.length c2) := (blk_cell hbox2 2).trans rfl
        have hcall3 := Try.list_walk k (la ++ sb p1) A2 c2 rx2 s1 s2 g v2 b2 w0 W2 hs2 (Kd.C_below hr2 hs2.bw) q2 g1 g2
        clear hs2 hK2 hcall2 hbox1 hs1' z1
        go_wp2_with (go_at_call 29; refine hcall3.mono ?_)
        first | rintro e W3 rfl ⟨v3, b3, hs3⟩ hK3 | rintro e W3 ⟨rfl, ⟨v3, b3, hs3⟩, hK3⟩
        clear hK3
        have hs3' : Hid (WAt w0 W3 g v3 b3 (la ++ sb p1 ++ sb s1)) := hs3
        clear hs3 hcall3 hbox2 z2
        go_wp2
        go_roundw
        case rel => exact ⟨i + 1, v3, b3, _, rfl, by omega, e2', hs3'⟩
        case measure => simp [intOf]; omega
    · obtain rfl : i = c.length := by omega
      unfold Hid at hli
      rw [List.drop_length, wlits] at hli
      obtain rfl := Option.some.inj hli
      go_wp2
      go_end0
      exact ⟨rfl, _, _, hsw⟩
theorem wrow_mono (l row : List Int) (k : Nat) : LeO (wrow k l row) (wrow (k + 1) l row) := by
  unfold wrow
  exact LeO.bind (impl_ListBytes.mono _ _) (fun _ => LeO.refl _)
theorem wlit_mono (l : List Int) (x : S44) (k : Nat) : LeO (wlit k l x) (wlit (k + 1) l x) := by
  unfold wlit
  exact LeO.bind (impl_putVarint.mono _ _ _) (fun _ => LeO.bind (wrow_mono _ _ _) (fun _ => wrow_mono _ _ _))
theorem wlits_mono (c : List S44) (k : Nat) : ∀ l : List Int, LeO (wlits k l c) (wlits (k + 1) l c) := by
  induction c with
  | nil => intro l; exact LeO.refl _
  | cons x t ih => intro l; simp only [wlits]; exact LeO.bind (wlit_mono _ _ _) (fun _ => ih _)
def impl_ClauseBytes.f (k : Nat) (l0_0 : List Int) (l1 : List (S44)) : Option (ByteArray × Bool) := (impl_GoodClause.f k l0_0 l1).bind fun t => if t = true then (if l1.length ≤ 1000000 then ((impl_putVarint.f k ([] : List Int) (l1.length : Int)).bind fun a => (wlits k a l1).bind fun b => some (strOfNums b, true)) else none) else some ((⟨#[]⟩ : ByteArray), false)
theorem impl_ClauseBytes.mono : ∀ a0 a1 k, LeO (impl_ClauseBytes.f k a0 a1) (impl_ClauseBytes.f (k + 1) a0 a1) := by
  intro a0 a1 k
  unfold impl_ClauseBytes.f
  exact LeO.bind (impl_GoodClause.mono _ _ _) (fun _ => LeO.ite (LeO.ite (LeO.bind (impl_putVarint.mono _ _ _) (fun _ => LeO.bind (wlits_mono _ _ _) (fun _ => LeO.refl _))) (LeO.refl _)) (LeO.refl _))
set_option maxHeartbeats 8000000 in
set_option maxRecDepth 1000000 in
theorem impl_ClauseBytes.calls (k : Nat) (A0_0 : Option Addr) (c0_0 : Nat) (l0_0 : List Int) (A1 : Option Addr) (c1 : Nat) (l1 : List (S44)) (r1 : ByteArray) (r2 : Bool) (w : World) (hr0_0 : Kd.C (Kd.int .i64) w A0_0 l0_0.length l0_0) (hc0_0 : l0_0.length ≤ c0_0) (hr1 : Kd.C k44 w A1 l1.length l1) (hc1 : l1.length ≤ c1) (h : impl_ClauseBytes.f k l0_0 l1 = some (r1, r2)) :
    Calls Try.prog 9 #[.agg #[.slice A0_0 l0_0.length c0_0], .slice A1 l1.length c1] w fun e w' => e = .returned (.tuple #[.string r1, .bool r2]) ∧ Below w.heap.size w w' := by
  unfold impl_ClauseBytes.f at h
  obtain ⟨t, ht, h⟩ := Option.bind_eq_some_iff.1 h
  have hbA : Below w.heap.size w (w.alloc (.cells #[.slice A0_0 l0_0.length c0_0] 30)) := below_alloc (Below.refl _ _) _
  have hcall := impl_GoodClause.calls k A0_0 c0_0 l0_0 A1 c1 l1 t (w.alloc (.cells #[.slice A0_0 l0_0.length c0_0] 30)) (Kd.C_below hr0_0 hbA) hc0_0 (Kd.C_below hr1 hbA) hc1 ht
  have hr1' : Hid (Kd.C k44 w A1 l1.length l1) := hr1
  have hbA' : Hid (Below w.heap.size w (w.alloc (.cells #[.slice A0_0 l0_0.length c0_0] 30))) := hbA
  have h' : Hid ((if t = true then (if l1.length ≤ 1000000 then ((impl_putVarint.f k ([] : List Int) (l1.length : Int)).bind fun a => (wlits k a l1).bind fun b => some (strOfNums b, true)) else none) else some ((⟨#[]⟩ : ByteArray), false)) = some (r1, r2)) := h
  clear h hr1 hbA ht hr0_0
  go_enter Try.func9, Try.ntmps9
  go_wp2_with (go_at_call 18; refine hcall.mono ?_)
  first | rintro e W1 rfl hB1 | rintro e W1 ⟨rfl, hB1⟩
  have hbw1 : Hid (Below w.heap.size w W1) := below_step hbA' hB1
  clear hcall hB1 hbA'
  unfold Hid at h'
  cases t with
  | false =>
    simp only [Bool.false_eq_true, if_false, Option.some.injEq, Prod.mk.injEq] at h'
    obtain ⟨rfl, rfl⟩ := h'
    go_wp2
    go_ret2
    exact ⟨rfl, hbw1⟩
  | true =>
    simp only [if_true] at h'
    by_cases hn : l1.length ≤ 1000000
    · rw [if_pos hn] at h'
      obtain ⟨a, ea, h'⟩ := Option.bind_eq_some_iff.1 h'
      obtain ⟨fin, ef, h'⟩ := Option.bind_eq_some_iff.1 h'
      simp only [Option.some.injEq, Prod.mk.injEq] at h'
      obtain ⟨rfl, rfl⟩ := h'
      obtain ⟨b, off, hA, hc⟩ : ∃ b off : Nat, (0 < l1.length → A1 = some ⟨b, off, none⟩) ∧ ∀ j, j < l1.length → ∃ (B1 : Option Addr) (d1 : Nat) (B2 : Option Addr) (d2 : Nat), w.cell? ⟨b, off + j * 3, none⟩ = some (.bool (rd_T44 l1 (j : Int)).f0) ∧ w.cell? ⟨b, off + j * 3 + 1, none⟩ = some (.slice B1 (rd_T44 l1 (j : Int)).f1.length d1) ∧ w.cell? ⟨b, off + j * 3 + 2, none⟩ = some (.slice B2 (rd_T44 l1 (j : Int)).f2.length d2) ∧
          (rd_T44 l1 (j : Int)).f1.length ≤ d1 ∧ Kd.C (Kd.int .i64) w B1 (rd_T44 l1 (j : Int)).f1.length (rd_T44 l1 (j : Int)).f1 ∧ (rd_T44 l1 (j : Int)).f2.length ≤ d2 ∧ Kd.C (Kd.int .i64) w B2 (rd_T44 l1 (j : Int)).f2.length (rd_T44 l1 (j : Int)).f2 := by
        rcases Nat.eq_zero_or_pos l1.length with h0 | h0
        · exact ⟨0, 0, fun h => by omega, fun j hj => by omega⟩
        · obtain ⟨⟨b, off, sp⟩, _, _, _, _, e, k0, _⟩ := at_T44 hr1' 0 (by omega) (by omega)
          have hsp : sp = none := by
            cases sp with
            | none => rfl
            | some x => simp [Addr.add, World.cell?] at k0; split at k0 <;> simp at k0
          subst hsp
          refine ⟨b, off, fun _ => e, fun j hj => ?_⟩
          obtain ⟨ad, B1, d1, B2, d2, e', k0, k1, k2, q1, q2, q3, q4⟩ := at_T44 hr1' (j : Int) (by omega) (by omega)
          rw [e] at e'
          obtain rfl := Option.some.inj e'
          rw [Int.toNat_natCast, Addr.add_lit b off (j * 3)] at k0 k1 k2
          exact ⟨B1, d1, B2, d2, k0, k1, k2, q1, q2, q3, q4⟩
      have hs : WAt w (W1.alloc (.cells #[.slice none 0 0, .bool false] 48)) W1.heap.size (.slice none 0 0) false [] := ⟨blk_new W1 _, Below.size hbw1, Kd.R_nil _ _ _ _ _, below_step hbw1 (below_alloc (Below.refl _ _) _)⟩
      have hcall := Try.clause_walk k [] a fin A1 c1 b off l1 W1.heap.size (.slice none 0 0) false w _ hs hA hn hc ea ef
      clear hs hA hc ea ef hr1' hbw1
      go_wp2_with (go_at_call 19; refine hcall.mono ?_)
      first | rintro e W2 rfl ⟨v2, b2, hs2⟩ | rintro e W2 ⟨rfl, v2, b2, hs2⟩
      have hcell := (blk_cell hs2.st 0).trans (rfl : _ = some v2)
      have hcv := own_string (P := Try.prog) Try.underlying46 Try.underlying5 Try.underlying9 hs2.ow
      have hbw2 : Hid (Below w.heap.size w W2) := hs2.bw
      clear hs2 hcall
      go_wp2
      go_ret2
      exact ⟨rfl, hbw2⟩
    · rw [if_neg hn] at h'; cases h'

end Go.Proofs.Ytfnfpgbedlmneaa.QFnExactClauseBytes
