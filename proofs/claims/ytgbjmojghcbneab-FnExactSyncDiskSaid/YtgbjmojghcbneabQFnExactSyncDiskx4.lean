-- Written by this session's own program (wip/x/xprint.py, over the kit's printer); Lean checks it.
import Derived.Test.YtgbjmojghcbneabQFnExactSyncDiskx0
import Derived.Test.YtgbjmojghcbneabQFnExactSyncDiskx1
import Derived.Test.YtgbjmojghcbneabQFnExactSyncDiskx2
import Derived.Test.YtgbjmojghcbneabQFnExactSyncDiskx3
namespace Go.Proofs.Ytgbjmojghcbneab.QFnExactSyncDisk
open Go.RowKit Go.Proofs.YtgbjmojghcbneabW.PrintWords Go.Proofs.YtgbjmojghcbneabW.PrintLast Go.Proofs.YtgbjmojghcbneabW.PrintMore
attribute [local go_sem] max2_int min2_int max_two min_two max_three min_three max_four min_four   -- for this text's walks alone
set_option linter.unusedVariables false
set_option linter.unusedSimpArgs false

/-! ### laws_FnExactSyncDisk: function 5 -/
mutual
def laws_FnExactSyncDisk.j0 : Nat → Bool → Bool → Bool → List ByteArray → List ByteArray → List ByteArray → List ByteArray → List ByteArray → List ByteArray → List ByteArray → List ByteArray → Option (Bool)
  | 0, _, _, _, _, _, _, _, _, _, _, _ => none
  | k + 1, x5, x8, x40, x201000, x201001, x216000, x216001, x223000, x223001, x231000, x231001 => if x40 = true then (some false) else ((laws_toDisk.f k x201000 x201001).bind fun bt232 => ((laws_eqDisk.f k x223000 x223001 bt232.1 bt232.2).bind fun t238 => (if t238 = true then ((laws_markDisk.f k x223000 x223001 1).bind fun bt239 => (if bt239.1 < 0 then (laws_FnExactSyncDisk.j1 k x5 true x201000 x201001 x216000 x216001 x231000 x231001) else ((laws_eqDisk.f k x231000 x231001 x216000 x216001).bind fun t242 => (if t242 = true then (laws_FnExactSyncDisk.j1 k x5 (x8 != x5) x201000 x201001 x216000 x216001 x231000 x231001) else (laws_FnExactSyncDisk.j1 k x5 true x201000 x201001 x216000 x216001 x231000 x231001))))) else (some false))))
def laws_FnExactSyncDisk.j1 : Nat → Bool → Bool → List ByteArray → List ByteArray → List ByteArray → List ByteArray → List ByteArray → List ByteArray → Option (Bool)
  | 0, _, _, _, _, _, _, _, _ => none
  | k + 1, x5, x61, x201000, x201001, x216000, x216001, x231000, x231001 => if x61 = true then (some false) else ((laws_markDisk.f k x231000 x231001 1).bind fun bt243 => ((laws_heldDisk.f k bt243.2.1 bt243.2.2 1).bind fun t246 => (if t246 < 0 then (some false) else (if t246 = bt243.1 then ((laws_toDisk.f k x201000 x201001).bind fun bt247 => ((impl_SyncDisk.f k bt247.1 bt247.2).bind fun bt253 => ((laws_eqDisk.f k bt253.1 bt253.2.1 x216000 x216001).bind fun t261 => (if t261 = true then (laws_FnExactSyncDisk.j2 k bt243.1 (bt253.2.2 != x5) bt243.2.1 bt243.2.2) else (laws_FnExactSyncDisk.j2 k bt243.1 true bt243.2.1 bt243.2.2))))) else (some false)))))
def laws_FnExactSyncDisk.j2 : Nat → Int → Bool → List ByteArray → List ByteArray → Option (Bool)
  | 0, _, _, _, _ => none
  | k + 1, x10, x87, x231000, x231001 => if x87 = true then (some false) else ((laws_heldDisk.f k x231000 x231001 1).bind fun t262 => (if t262 < 0 then (some false) else (if t262 = x10 then (some true) else (some false))))
end
def laws_FnExactSyncDisk.f (k : Nat) (l0_0 : List ByteArray) (l0_1 : List ByteArray) : Option (Bool) := (laws_szDisk.f k l0_0 l0_1 1048576).bind fun t201 => (if t201 < 0 then (some true) else ((laws_toDisk.f k l0_0 l0_1).bind fun bt202 => ((spec_SyncDisk.f k bt202.1 bt202.2).bind fun bt208 => ((laws_toDisk.f k l0_0 l0_1).bind fun bt216 => ((impl_SyncDisk.f k bt216.1 bt216.2).bind fun bt223 => ((laws_eqDisk.f k bt223.1 bt223.2.1 bt208.1 bt208.2.1).bind fun t231 => (if t231 = true then (laws_FnExactSyncDisk.j0 k bt208.2.2 bt223.2.2 (bt223.2.2 != bt208.2.2) l0_0 l0_1 bt208.1 bt208.2.1 bt216.1 bt216.2 bt223.1 bt223.2.1) else (laws_FnExactSyncDisk.j0 k bt208.2.2 bt223.2.2 true l0_0 l0_1 bt208.1 bt208.2.1 bt216.1 bt216.2 bt223.1 bt223.2.1))))))))
theorem laws_FnExactSyncDisk.mono_l : ∀ k, (∀ y0 y1 y2 y3 y4 y5 y6 y7 y8 y9 y10, LeO (laws_FnExactSyncDisk.j0 k y0 y1 y2 y3 y4 y5 y6 y7 y8 y9 y10) (laws_FnExactSyncDisk.j0 (k + 1) y0 y1 y2 y3 y4 y5 y6 y7 y8 y9 y10)) ∧ (∀ y0 y1 y2 y3 y4 y5 y6 y7, LeO (laws_FnExactSyncDisk.j1 k y0 y1 y2 y3 y4 y5 y6 y7) (laws_FnExactSyncDisk.j1 (k + 1) y0 y1 y2 y3 y4 y5 y6 y7)) ∧ (∀ y0 y1 y2 y3, LeO (laws_FnExactSyncDisk.j2 k y0 y1 y2 y3) (laws_FnExactSyncDisk.j2 (k + 1) y0 y1 y2 y3))
  | 0 => ⟨fun _ _ _ _ _ _ _ _ _ _ _ r h => by simp [laws_FnExactSyncDisk.j0] at h, fun _ _ _ _ _ _ _ _ r h => by simp [laws_FnExactSyncDisk.j1] at h, fun _ _ _ _ r h => by simp [laws_FnExactSyncDisk.j2] at h⟩
  | k + 1 => by
    obtain ⟨ih0, ih1, ih2⟩ := laws_FnExactSyncDisk.mono_l k
    refine ⟨?_, ?_, ?_⟩
    · intro y0 y1 y2 y3 y4 y5 y6 y7 y8 y9 y10
      unfold laws_FnExactSyncDisk.j0
      repeat' first
      | (with_reducible exact ih0 _ _ _ _ _ _ _ _ _ _ _)
      | (with_reducible exact ih1 _ _ _ _ _ _ _ _)
      | (with_reducible exact ih2 _ _ _ _)
      | (with_reducible exact impl_SyncDisk.mono _ _ _)
      | (with_reducible exact laws_eqDisk.mono _ _ _ _ _)
      | (with_reducible exact laws_heldDisk.mono _ _ _ _)
      | (with_reducible exact laws_markDisk.mono _ _ _ _)
      | (with_reducible exact laws_szDisk.mono _ _ _ _)
      | (with_reducible exact laws_toDisk.mono _ _ _)
      | (with_reducible exact spec_SyncDisk.mono _ _ _)
      | (with_reducible exact LeO.refl _)
      | (with_reducible exact LeO.none _)
      | (with_reducible refine LeO.ite ?_ ?_)
      | (with_reducible refine LeO.bind ?_ (fun _ => ?_))
      | exact ih0 _ _ _ _ _ _ _ _ _ _ _
      | exact ih1 _ _ _ _ _ _ _ _
      | exact ih2 _ _ _ _
      | exact impl_SyncDisk.mono _ _ _
      | exact laws_eqDisk.mono _ _ _ _ _
      | exact laws_heldDisk.mono _ _ _ _
      | exact laws_markDisk.mono _ _ _ _
      | exact laws_szDisk.mono _ _ _ _
      | exact laws_toDisk.mono _ _ _
      | exact spec_SyncDisk.mono _ _ _
      | exact LeO.none _
      | refine LeO.ite ?_ ?_
      | refine LeO.bind ?_ (fun _ => ?_)
    · intro y0 y1 y2 y3 y4 y5 y6 y7
      unfold laws_FnExactSyncDisk.j1
      repeat' first
      | (with_reducible exact ih0 _ _ _ _ _ _ _ _ _ _ _)
      | (with_reducible exact ih1 _ _ _ _ _ _ _ _)
      | (with_reducible exact ih2 _ _ _ _)
      | (with_reducible exact impl_SyncDisk.mono _ _ _)
      | (with_reducible exact laws_eqDisk.mono _ _ _ _ _)
      | (with_reducible exact laws_heldDisk.mono _ _ _ _)
      | (with_reducible exact laws_markDisk.mono _ _ _ _)
      | (with_reducible exact laws_szDisk.mono _ _ _ _)
      | (with_reducible exact laws_toDisk.mono _ _ _)
      | (with_reducible exact spec_SyncDisk.mono _ _ _)
      | (with_reducible exact LeO.refl _)
      | (with_reducible exact LeO.none _)
      | (with_reducible refine LeO.ite ?_ ?_)
      | (with_reducible refine LeO.bind ?_ (fun _ => ?_))
      | exact ih0 _ _ _ _ _ _ _ _ _ _ _
      | exact ih1 _ _ _ _ _ _ _ _
      | exact ih2 _ _ _ _
      | exact impl_SyncDisk.mono _ _ _
      | exact laws_eqDisk.mono _ _ _ _ _
      | exact laws_heldDisk.mono _ _ _ _
      | exact laws_markDisk.mono _ _ _ _
      | exact laws_szDisk.mono _ _ _ _
      | exact laws_toDisk.mono _ _ _
      | exact spec_SyncDisk.mono _ _ _
      | exact LeO.none _
      | refine LeO.ite ?_ ?_
      | refine LeO.bind ?_ (fun _ => ?_)
    · intro y0 y1 y2 y3
      unfold laws_FnExactSyncDisk.j2
      repeat' first
      | (with_reducible exact ih0 _ _ _ _ _ _ _ _ _ _ _)
      | (with_reducible exact ih1 _ _ _ _ _ _ _ _)
      | (with_reducible exact ih2 _ _ _ _)
      | (with_reducible exact impl_SyncDisk.mono _ _ _)
      | (with_reducible exact laws_eqDisk.mono _ _ _ _ _)
      | (with_reducible exact laws_heldDisk.mono _ _ _ _)
      | (with_reducible exact laws_markDisk.mono _ _ _ _)
      | (with_reducible exact laws_szDisk.mono _ _ _ _)
      | (with_reducible exact laws_toDisk.mono _ _ _)
      | (with_reducible exact spec_SyncDisk.mono _ _ _)
      | (with_reducible exact LeO.refl _)
      | (with_reducible exact LeO.none _)
      | (with_reducible refine LeO.ite ?_ ?_)
      | (with_reducible refine LeO.bind ?_ (fun _ => ?_))
      | exact ih0 _ _ _ _ _ _ _ _ _ _ _
      | exact ih1 _ _ _ _ _ _ _ _
      | exact ih2 _ _ _ _
      | exact impl_SyncDisk.mono _ _ _
      | exact laws_eqDisk.mono _ _ _ _ _
      | exact laws_heldDisk.mono _ _ _ _
      | exact laws_markDisk.mono _ _ _ _
      | exact laws_szDisk.mono _ _ _ _
      | exact laws_toDisk.mono _ _ _
      | exact spec_SyncDisk.mono _ _ _
      | exact LeO.none _
      | refine LeO.ite ?_ ?_
      | refine LeO.bind ?_ (fun _ => ?_)
theorem laws_FnExactSyncDisk.mono : ∀ a0 a1 k, LeO (laws_FnExactSyncDisk.f k a0 a1) (laws_FnExactSyncDisk.f (k + 1) a0 a1) := by
  intro a0 a1 k
  obtain ⟨ih0, ih1, ih2⟩ := laws_FnExactSyncDisk.mono_l k
  unfold laws_FnExactSyncDisk.f
  repeat' first
      | (with_reducible exact ih0 _ _ _ _ _ _ _ _ _ _ _)
      | (with_reducible exact ih1 _ _ _ _ _ _ _ _)
      | (with_reducible exact ih2 _ _ _ _)
      | (with_reducible exact impl_SyncDisk.mono _ _ _)
      | (with_reducible exact laws_eqDisk.mono _ _ _ _ _)
      | (with_reducible exact laws_heldDisk.mono _ _ _ _)
      | (with_reducible exact laws_markDisk.mono _ _ _ _)
      | (with_reducible exact laws_szDisk.mono _ _ _ _)
      | (with_reducible exact laws_toDisk.mono _ _ _)
      | (with_reducible exact spec_SyncDisk.mono _ _ _)
      | (with_reducible exact LeO.refl _)
      | (with_reducible exact LeO.none _)
      | (with_reducible refine LeO.ite ?_ ?_)
      | (with_reducible refine LeO.bind ?_ (fun _ => ?_))
      | exact ih0 _ _ _ _ _ _ _ _ _ _ _
      | exact ih1 _ _ _ _ _ _ _ _
      | exact ih2 _ _ _ _
      | exact impl_SyncDisk.mono _ _ _
      | exact laws_eqDisk.mono _ _ _ _ _
      | exact laws_heldDisk.mono _ _ _ _
      | exact laws_markDisk.mono _ _ _ _
      | exact laws_szDisk.mono _ _ _ _
      | exact laws_toDisk.mono _ _ _
      | exact spec_SyncDisk.mono _ _ _
      | exact LeO.none _
      | refine LeO.ite ?_ ?_
      | refine LeO.bind ?_ (fun _ => ?_)
set_option maxHeartbeats 8000000 in
set_option maxRecDepth 100000 in
theorem laws_FnExactSyncDisk.calls (k : Nat) (A0_0 : Option Addr) (c0_0 : Nat) (l0_0 : List ByteArray) (A0_1 : Option Addr) (c0_1 : Nat) (l0_1 : List ByteArray) (r : Bool) (w : World) (hr0_0 : Kd.C Kd.string w A0_0 l0_0.length l0_0) (hc0_0 : l0_0.length ≤ c0_0) (hr0_1 : Kd.C Kd.string w A0_1 l0_1.length l0_1) (hc0_1 : l0_1.length ≤ c0_1) (h : laws_FnExactSyncDisk.f k l0_0 l0_1 = some r) :
    Calls Try.prog 5 #[.agg #[.slice A0_0 l0_0.length c0_0, .slice A0_1 l0_1.length c0_1]] w fun e w' => e = .returned (.bool r) ∧ Below w.heap.size w w' := by
  have hu38 := Try.underlying38
  have hu40 := Try.underlying40
  have HR0_0 := Aside0.mk hr0_0
  have HC0_0 := Aside0.mk hc0_0
  clear hr0_0 hc0_0
  have HR0_1 := Aside0.mk hr0_1
  have HC0_1 := Aside0.mk hc0_1
  clear hr0_1 hc0_1
  have HB := Aside0.mk (Below.refl w.heap.size w)
  have H : ((laws_szDisk.f k l0_0 l0_1 1048576).bind fun t201 => (if t201 < 0 then (some true) else ((laws_toDisk.f k l0_0 l0_1).bind fun bt202 => ((spec_SyncDisk.f k bt202.1 bt202.2).bind fun bt208 => ((laws_toDisk.f k l0_0 l0_1).bind fun bt216 => ((impl_SyncDisk.f k bt216.1 bt216.2).bind fun bt223 => ((laws_eqDisk.f k bt223.1 bt223.2.1 bt208.1 bt208.2.1).bind fun t231 => (if t231 = true then (laws_FnExactSyncDisk.j0 k bt208.2.2 bt223.2.2 (bt223.2.2 != bt208.2.2) l0_0 l0_1 bt208.1 bt208.2.1 bt216.1 bt216.2 bt223.1 bt223.2.1) else (laws_FnExactSyncDisk.j0 k bt208.2.2 bt223.2.2 true l0_0 l0_1 bt208.1 bt208.2.1 bt216.1 bt216.2 bt223.1 bt223.2.1))))))))) = some r := h
  clear h
  replace H := Option.bind_eq_some_iff.mp H
  obtain ⟨t201, A20, H⟩ := H
  replace H : (if t201 < 0 then (some true) else ((laws_toDisk.f k l0_0 l0_1).bind fun bt202 => ((spec_SyncDisk.f k bt202.1 bt202.2).bind fun bt208 => ((laws_toDisk.f k l0_0 l0_1).bind fun bt216 => ((impl_SyncDisk.f k bt216.1 bt216.2).bind fun bt223 => ((laws_eqDisk.f k bt223.1 bt223.2.1 bt208.1 bt208.2.1).bind fun t231 => (if t231 = true then (laws_FnExactSyncDisk.j0 k bt208.2.2 bt223.2.2 (bt223.2.2 != bt208.2.2) l0_0 l0_1 bt208.1 bt208.2.1 bt216.1 bt216.2 bt223.1 bt223.2.1) else (laws_FnExactSyncDisk.j0 k bt208.2.2 bt223.2.2 true l0_0 l0_1 bt208.1 bt208.2.1 bt216.1 bt216.2 bt223.1 bt223.2.1)))))))) = some r := H
  have A2 := Aside0.mk A20
  clear A20
  by_cases c3 : t201 < 0
  · rw [if_pos c3] at H
    have c3b0 : decide (t201 < 0) = true := decide_eq_true c3
    clear c3
    obtain rfl := Option.some.inj H
    go_enter Try.func5, Try.ntmps5
    go_wp2_with (first | ((with_reducible refine gate_dst (N := 1) rfl ?_); refine box_event ?hg (N := 1) ?hd (cs := #[.slice A0_0 l0_0.length c0_0, .slice A0_1 l0_1.length c0_1]) (t := 38) ?hr ?_; (case hd => rfl); (case hg => rfl); (case hr => first | (go_simp; done) | (go_simp; rfl)); intro gb200 hg w4 hbox hb; have n0_ := Aside0.mk (below_step (by repeat (first | (with_reducible first | exact HB.out | apply below_alloc) | exact HB.out)) hb); have n1_ := Aside0.mk (hbox); have n2_ := Aside0.mk ((by rw [hg]; exact (below_size (by repeat (first | (with_reducible first | exact HB.out | apply below_alloc) | exact HB.out))) : w.heap.size ≤ gb200)); have n3_ := Aside0.mk ((by rw [hg]; exact (below_size (by repeat (first | (with_reducible first | exact HB.out | apply below_alloc) | exact HB.out))) : w.heap.size ≤ gb200)); clear HB; have HB := n0_; have BK200 := n1_; have GW200 := n2_; have GE200 := n3_; clear n0_ n1_ n2_ n3_; clear hb hbox hg; have hcz5_0 : w4.cell? ⟨gb200, 0, none⟩ = some (.slice A0_0 l0_0.length c0_0) := (blk_cell BK200.out 0).trans rfl; have hcz5_1 : w4.cell? ⟨gb200, 1, none⟩ = some (.slice A0_1 l0_1.length c0_1) := (blk_cell BK200.out 1).trans rfl; have hfz5_0 := blk_frozen BK200.out 0; have hfz5_1 := blk_frozen BK200.out 1) | ((with_reducible refine gate_callee (f := 24) rfl ?_); refine goesL_ (some 16) rfl rfl Try.func24 (by kernel_rfl) rfl #[.agg #[.slice A0_0 l0_0.length c0_0, .slice A0_1 l0_1.length c0_1], .int .i64 1048576] rfl (by (try simp only [List.map_toArray, List.map_cons, List.map_nil]); first | done | rfl | (simp only [List.length_drop, List.length_take]; rfl)) ?_; (with_reducible refine (laws_szDisk.calls k _ _ l0_0 _ _ l0_1 1048576 t201 _ ?side1 ?side2 ?side3 ?side4 A2.out).mono ?_); (case side1 => repeat (first | exact (Kd.C_below HR0_0.out HB.out) | (with_reducible refine Kd.C_alloc ?_ _))); (case side2 => exact HC0_0.out); (case side3 => repeat (first | exact (Kd.C_below HR0_1.out HB.out) | (with_reducible refine Kd.C_alloc ?_ _))); (case side4 => exact HC0_1.out); rintro e w6 ⟨rfl, hb⟩; refine ⟨_, rfl, ?_⟩; have n0_ := Aside0.mk (blk_below (g := gb200) (o := .cells #[.slice A0_0 l0_0.length c0_0, .slice A0_1 l0_1.length c0_1] 38 (0, 0)) (by (with_reducible repeat (refine blk_alloc ?_ _)); exact BK200.out) hb); have n1_ := Aside0.mk (below_step (by repeat (first | (with_reducible first | exact HB.out | apply below_alloc | refine below_set ?_ GE200.out) | exact HB.out)) hb); clear BK200; clear HB; have BK200 := n0_; have HB := n1_; clear n0_ n1_; (try clear hb); (try clear hb2); (try clear hk); (try clear hi)))
    go_ret
    exact ⟨by first | rfl | (simp [errW_none, errW_some] <;> rfl) | (simp [*, errW_none, errW_some] <;> rfl), by repeat (first | (with_reducible first | exact HB.out | apply below_alloc | refine below_set ?_ GE200.out) | exact HB.out)⟩
  · rw [if_neg c3] at H
    have c3b0 : decide (t201 < 0) = false := decide_eq_false c3
    clear c3
    replace H := Option.bind_eq_some_iff.mp H
    obtain ⟨⟨t202, t205⟩, A70, H⟩ := H
    replace H : ((spec_SyncDisk.f k t202 t205).bind fun bt208 => ((laws_toDisk.f k l0_0 l0_1).bind fun bt216 => ((impl_SyncDisk.f k bt216.1 bt216.2).bind fun bt223 => ((laws_eqDisk.f k bt223.1 bt223.2.1 bt208.1 bt208.2.1).bind fun t231 => (if t231 = true then (laws_FnExactSyncDisk.j0 k bt208.2.2 bt223.2.2 (bt223.2.2 != bt208.2.2) l0_0 l0_1 bt208.1 bt208.2.1 bt216.1 bt216.2 bt223.1 bt223.2.1) else (laws_FnExactSyncDisk.j0 k bt208.2.2 bt223.2.2 true l0_0 l0_1 bt208.1 bt208.2.1 bt216.1 bt216.2 bt223.1 bt223.2.1)))))) = some r := H
    have A7 := Aside0.mk A70
    clear A70
    replace H := Option.bind_eq_some_iff.mp H
    obtain ⟨⟨t208, t211, t214⟩, A80, H⟩ := H
    replace H : ((laws_toDisk.f k l0_0 l0_1).bind fun bt216 => ((impl_SyncDisk.f k bt216.1 bt216.2).bind fun bt223 => ((laws_eqDisk.f k bt223.1 bt223.2.1 t208 t211).bind fun t231 => (if t231 = true then (laws_FnExactSyncDisk.j0 k t214 bt223.2.2 (bt223.2.2 != t214) l0_0 l0_1 t208 t211 bt216.1 bt216.2 bt223.1 bt223.2.1) else (laws_FnExactSyncDisk.j0 k t214 bt223.2.2 true l0_0 l0_1 t208 t211 bt216.1 bt216.2 bt223.1 bt223.2.1))))) = some r := H
    have A8 := Aside0.mk A80
    clear A80
    replace H := Option.bind_eq_some_iff.mp H
    obtain ⟨⟨t216, t219⟩, A90, H⟩ := H
    replace H : ((impl_SyncDisk.f k t216 t219).bind fun bt223 => ((laws_eqDisk.f k bt223.1 bt223.2.1 t208 t211).bind fun t231 => (if t231 = true then (laws_FnExactSyncDisk.j0 k t214 bt223.2.2 (bt223.2.2 != t214) l0_0 l0_1 t208 t211 t216 t219 bt223.1 bt223.2.1) else (laws_FnExactSyncDisk.j0 k t214 bt223.2.2 true l0_0 l0_1 t208 t211 t216 t219 bt223.1 bt223.2.1)))) = some r := H
    have A9 := Aside0.mk A90
    clear A90
    replace H := Option.bind_eq_some_iff.mp H
    obtain ⟨⟨t223, t226, t229⟩, A100, H⟩ := H
    replace H : ((laws_eqDisk.f k t223 t226 t208 t211).bind fun t231 => (if t231 = true then (laws_FnExactSyncDisk.j0 k t214 t229 (t229 != t214) l0_0 l0_1 t208 t211 t216 t219 t223 t226) else (laws_FnExactSyncDisk.j0 k t214 t229 true l0_0 l0_1 t208 t211 t216 t219 t223 t226))) = some r := H
    have A10 := Aside0.mk A100
    clear A100
    have HC11 := Aside0.mk H
    clear H
    go_enter Try.func5, Try.ntmps5
    go_upto_region 8 with (first | ((with_reducible refine gate_dst (N := 1) rfl ?_); refine box_event ?hg (N := 1) ?hd (cs := #[.slice A0_0 l0_0.length c0_0, .slice A0_1 l0_1.length c0_1]) (t := 38) ?hr ?_; (case hd => rfl); (case hg => rfl); (case hr => first | (go_simp; done) | (go_simp; rfl)); intro gb200 hg w12 hbox hb; have n0_ := Aside0.mk (below_step (by repeat (first | (with_reducible first | exact HB.out | apply below_alloc) | exact HB.out)) hb); have n1_ := Aside0.mk (hbox); have n2_ := Aside0.mk ((by rw [hg]; exact (below_size (by repeat (first | (with_reducible first | exact HB.out | apply below_alloc) | exact HB.out))) : w.heap.size ≤ gb200)); have n3_ := Aside0.mk ((by rw [hg]; exact (below_size (by repeat (first | (with_reducible first | exact HB.out | apply below_alloc) | exact HB.out))) : w.heap.size ≤ gb200)); clear HB; have HB := n0_; have BK200 := n1_; have GW200 := n2_; have GE200 := n3_; clear n0_ n1_ n2_ n3_; clear hb hbox hg; have hcz13_0 : w12.cell? ⟨gb200, 0, none⟩ = some (.slice A0_0 l0_0.length c0_0) := (blk_cell BK200.out 0).trans rfl; have hcz13_1 : w12.cell? ⟨gb200, 1, none⟩ = some (.slice A0_1 l0_1.length c0_1) := (blk_cell BK200.out 1).trans rfl; have hfz13_0 := blk_frozen BK200.out 0; have hfz13_1 := blk_frozen BK200.out 1) | ((with_reducible refine gate_callee (f := 24) rfl ?_); refine goesL_ (some 16) rfl rfl Try.func24 (by kernel_rfl) rfl #[.agg #[.slice A0_0 l0_0.length c0_0, .slice A0_1 l0_1.length c0_1], .int .i64 1048576] rfl (by (try simp only [List.map_toArray, List.map_cons, List.map_nil]); first | done | rfl | (simp only [List.length_drop, List.length_take]; rfl)) ?_; (with_reducible refine (laws_szDisk.calls k _ _ l0_0 _ _ l0_1 1048576 t201 _ ?side1 ?side2 ?side3 ?side4 A2.out).mono ?_); (case side1 => repeat (first | exact (Kd.C_below HR0_0.out HB.out) | (with_reducible refine Kd.C_alloc ?_ _))); (case side2 => exact HC0_0.out); (case side3 => repeat (first | exact (Kd.C_below HR0_1.out HB.out) | (with_reducible refine Kd.C_alloc ?_ _))); (case side4 => exact HC0_1.out); rintro e w14 ⟨rfl, hb⟩; refine ⟨_, rfl, ?_⟩; have n0_ := Aside0.mk (blk_below (g := gb200) (o := .cells #[.slice A0_0 l0_0.length c0_0, .slice A0_1 l0_1.length c0_1] 38 (0, 0)) (by (with_reducible repeat (refine blk_alloc ?_ _)); exact BK200.out) hb); have n1_ := Aside0.mk (below_step (by repeat (first | (with_reducible first | exact HB.out | apply below_alloc | refine below_set ?_ GE200.out) | exact HB.out)) hb); clear BK200; clear HB; have BK200 := n0_; have HB := n1_; clear n0_ n1_; (try clear hb); (try clear hb2); (try clear hk); (try clear hi); have hcz15_0 : w14.cell? ⟨gb200, 0, none⟩ = some (.slice A0_0 l0_0.length c0_0) := (blk_cell BK200.out 0).trans rfl; have hcz15_1 : w14.cell? ⟨gb200, 1, none⟩ = some (.slice A0_1 l0_1.length c0_1) := (blk_cell BK200.out 1).trans rfl; have hfz15_0 := blk_frozen BK200.out 0; have hfz15_1 := blk_frozen BK200.out 1) | ((with_reducible refine gate_callee (f := 26) rfl ?_); refine goesL_ (some 21) rfl rfl Try.func26 (by kernel_rfl) rfl #[.agg #[.slice A0_0 l0_0.length c0_0, .slice A0_1 l0_1.length c0_1]] rfl (by (try simp only [List.map_toArray, List.map_cons, List.map_nil]); first | done | rfl | (simp only [List.length_drop, List.length_take]; rfl)) ?_; (with_reducible refine (laws_toDisk.calls k _ _ l0_0 _ _ l0_1 t202 t205 _ ?side1 ?side2 ?side3 ?side4 A7.out).mono ?_); (case side1 => repeat (first | exact (Kd.C_below HR0_0.out HB.out) | (with_reducible refine Kd.C_alloc ?_ _))); (case side2 => exact HC0_0.out); (case side3 => repeat (first | exact (Kd.C_below HR0_1.out HB.out) | (with_reducible refine Kd.C_alloc ?_ _))); (case side4 => exact HC0_1.out); rintro e w16 ⟨v203, v206, rfl, ho0, ho1, hb⟩; refine ⟨_, rfl, ?_⟩; have n0_ := Aside0.mk (Kd.R_lower ho0 (below_size (by repeat (first | (with_reducible first | exact HB.out | apply below_alloc | refine below_set ?_ GE200.out) | exact HB.out)))); have n1_ := Aside0.mk (Kd.R_lower ho1 (below_size (by repeat (first | (with_reducible first | exact HB.out | apply below_alloc | refine below_set ?_ GE200.out) | exact HB.out)))); have n2_ := Aside0.mk (blk_below (g := gb200) (o := .cells #[.slice A0_0 l0_0.length c0_0, .slice A0_1 l0_1.length c0_1] 38 (0, 0)) (by (with_reducible repeat (refine blk_alloc ?_ _)); exact BK200.out) hb); have n3_ := Aside0.mk (below_step (by repeat (first | (with_reducible first | exact HB.out | apply below_alloc | refine below_set ?_ GE200.out) | exact HB.out)) hb); clear BK200; clear HB; have HO204 := n0_; have HO207 := n1_; have BK200 := n2_; have HB := n3_; clear n0_ n1_ n2_ n3_; (try clear hb); (try clear hb2); (try clear hk); (try clear hi); (try clear ho0); (try clear ho1); obtain ⟨Ao17, co17, eo17⟩ := Kd.R_slice HO204.out; subst eo17; obtain ⟨Ao18, co18, eo18⟩ := Kd.R_slice HO207.out; subst eo18) | ((with_reducible refine gate_callee (f := 25) rfl ?_); refine goesL_ (some 22) rfl rfl Try.func25 (by kernel_rfl) rfl #[.agg #[.slice Ao17 t202.length co17, .slice Ao18 t205.length co18]] rfl (by (try simp only [List.map_toArray, List.map_cons, List.map_nil]); first | done | rfl | (simp only [List.length_drop, List.length_take]; rfl)) ?_; (with_reducible refine (spec_SyncDisk.calls k _ _ t202 _ _ t205 t208 t211 t214 _ ?side1 ?side2 ?side3 ?side4 A8.out).mono ?_); (case side1 => repeat (first | exact (Kd.R_reads' HO204.out).2.2 | (with_reducible refine Kd.C_alloc ?_ _))); (case side2 => exact (Kd.R_reads' HO204.out).2.1); (case side3 => repeat (first | exact (Kd.R_reads' HO207.out).2.2 | (with_reducible refine Kd.C_alloc ?_ _))); (case side4 => exact (Kd.R_reads' HO207.out).2.1); rintro e w19 ⟨v209, v212, rfl, ho0, ho1, hb⟩; refine ⟨_, rfl, ?_⟩; have n0_ := Aside0.mk (Kd.R_mono (Kd.R_told (Kd.R_told (Kd.R_old (by (with_reducible repeat (first | apply Kd.R_alloc)); exact HO204.out) hb) (Kd.R_base ho0)) (Kd.R_base ho1)) (fun _ h_ => h_.1)); have n1_ := Aside0.mk (Kd.R_mono (Kd.R_told (Kd.R_told (Kd.R_old (by (with_reducible repeat (first | apply Kd.R_alloc)); exact HO207.out) hb) (Kd.R_base ho0)) (Kd.R_base ho1)) (fun _ h_ => h_.1)); have n2_ := Aside0.mk (Kd.R_lower (Kd.R_new' (Kd.R_new' ho0 (Kd.R_lt (by (with_reducible repeat (first | apply Kd.R_alloc)); exact HO204.out))) (Kd.R_lt (by (with_reducible repeat (first | apply Kd.R_alloc)); exact HO207.out))) (below_size (by repeat (first | (with_reducible first | exact HB.out | apply below_alloc | refine below_set ?_ GE200.out) | exact HB.out)))); have n3_ := Aside0.mk (Kd.R_lower (Kd.R_new' (Kd.R_new' ho1 (Kd.R_lt (by (with_reducible repeat (first | apply Kd.R_alloc)); exact HO204.out))) (Kd.R_lt (by (with_reducible repeat (first | apply Kd.R_alloc)); exact HO207.out))) (below_size (by repeat (first | (with_reducible first | exact HB.out | apply below_alloc | refine below_set ?_ GE200.out) | exact HB.out)))); have n4_ := Aside0.mk (blk_below (g := gb200) (o := .cells #[.slice A0_0 l0_0.length c0_0, .slice A0_1 l0_1.length c0_1] 38 (0, 0)) (by (with_reducible repeat (refine blk_alloc ?_ _)); exact BK200.out) hb); have n5_ := Aside0.mk (below_step (by repeat (first | (with_reducible first | exact HB.out | apply below_alloc | refine below_set ?_ GE200.out) | exact HB.out)) hb); clear HO204; clear HO207; clear BK200; clear HB; have HO204 := n0_; have HO207 := n1_; have HO210 := n2_; have HO213 := n3_; have BK200 := n4_; have HB := n5_; clear n0_ n1_ n2_ n3_ n4_ n5_; (try clear hb); (try clear hb2); (try clear hk); (try clear hi); (try clear ho0); (try clear ho1)) | ((with_reducible refine gate_dst (N := 4) rfl ?_); refine box_event ?hg (N := 4) ?hd (cs := #[.slice none 0 0, .slice none 0 0]) (t := 40) ?hr ?_; (case hd => rfl); (case hg => rfl); (case hr => first | (go_simp; done) | (go_simp; rfl)); intro gb215 hg w20 hbox hb; have n0_ := Aside0.mk (Kd.R_below (by (with_reducible repeat (first | apply Kd.R_alloc)); exact HO204.out) hb); have n1_ := Aside0.mk (Kd.R_below (by (with_reducible repeat (first | apply Kd.R_alloc)); exact HO207.out) hb); have n2_ := Aside0.mk (Kd.R_below (by (with_reducible repeat (first | apply Kd.R_alloc)); exact HO210.out) hb); have n3_ := Aside0.mk (Kd.R_below (by (with_reducible repeat (first | apply Kd.R_alloc)); exact HO213.out) hb); have n4_ := Aside0.mk (blk_below (g := gb200) (o := .cells #[.slice A0_0 l0_0.length c0_0, .slice A0_1 l0_1.length c0_1] 38 (0, 0)) (by (with_reducible repeat (refine blk_alloc ?_ _)); exact BK200.out) hb); have n5_ := Aside0.mk (below_step (by repeat (first | (with_reducible first | exact HB.out | apply below_alloc | refine below_set ?_ GE200.out) | exact HB.out)) hb); have n6_ := Aside0.mk (hbox); have n7_ := Aside0.mk ((by rw [hg]; exact (below_size (by repeat (first | (with_reducible first | exact HB.out | apply below_alloc | refine below_set ?_ GE200.out) | exact HB.out))) : w.heap.size ≤ gb215)); have n8_ := Aside0.mk ((by rw [hg]; exact (below_size (by repeat (first | (with_reducible first | exact HB.out | apply below_alloc | refine below_set ?_ GE200.out) | exact HB.out))) : w.heap.size ≤ gb215)); have n9_ := Aside0.mk ((by rw [hg]; exact Nat.ne_of_lt (blk_lt (g := gb200) (o := .cells #[.slice A0_0 l0_0.length c0_0, .slice A0_1 l0_1.length c0_1] 38 (0, 0)) (by (with_reducible repeat (refine blk_alloc ?_ _)); exact BK200.out)) : gb200 ≠ gb215)); have n10_ := Aside0.mk ((by rw [hg]; exact Nat.ne_of_gt (blk_lt (g := gb200) (o := .cells #[.slice A0_0 l0_0.length c0_0, .slice A0_1 l0_1.length c0_1] 38 (0, 0)) (by (with_reducible repeat (refine blk_alloc ?_ _)); exact BK200.out)) : gb215 ≠ gb200)); clear HO204; clear HO207; clear HO210; clear HO213; clear BK200; clear HB; have HO204 := n0_; have HO207 := n1_; have HO210 := n2_; have HO213 := n3_; have BK200 := n4_; have HB := n5_; have BK215 := n6_; have GW215 := n7_; have GE215 := n8_; have NB200_215 := n9_; have NB215_200 := n10_; clear n0_ n1_ n2_ n3_ n4_ n5_ n6_ n7_ n8_ n9_ n10_; clear hb hbox hg; obtain ⟨Ao21, co21, eo21⟩ := Kd.R_slice HO210.out; subst eo21; have hnb22 := NB215_200.out; have hnc22 := NB200_215.out; have hcz23_0 : w20.cell? ⟨gb215, 0, none⟩ = some (.slice none 0 0) := (blk_cell BK215.out 0).trans rfl; have hcz23_1 : w20.cell? ⟨gb215, 1, none⟩ = some (.slice none 0 0) := (blk_cell BK215.out 1).trans rfl; have hfz23_0 := blk_frozen BK215.out 0; have hfz23_1 := blk_frozen BK215.out 1; obtain ⟨Ao24, co24, eo24⟩ := Kd.R_slice HO213.out; subst eo24; have hcz25_0 : w20.cell? ⟨gb200, 0, none⟩ = some (.slice A0_0 l0_0.length c0_0) := (blk_cell BK200.out 0).trans rfl; have hcz25_1 : w20.cell? ⟨gb200, 1, none⟩ = some (.slice A0_1 l0_1.length c0_1) := (blk_cell BK200.out 1).trans rfl; have hfz25_0 := blk_frozen BK200.out 0; have hfz25_1 := blk_frozen BK200.out 1) | ((with_reducible refine gate_callee (f := 26) rfl ?_); refine goesL_ (some 26) rfl rfl Try.func26 (by kernel_rfl) rfl #[.agg #[.slice A0_0 l0_0.length c0_0, .slice A0_1 l0_1.length c0_1]] rfl (by (try simp only [List.map_toArray, List.map_cons, List.map_nil]); first | done | rfl | (simp only [List.length_drop, List.length_take]; rfl)) ?_; (with_reducible refine (laws_toDisk.calls k _ _ l0_0 _ _ l0_1 t216 t219 _ ?side1 ?side2 ?side3 ?side4 A9.out).mono ?_); (case side1 => exact Kd.C_below HR0_0.out (by repeat (first | (with_reducible first | exact HB.out | apply below_alloc | refine below_set ?_ GE200.out | refine below_set ?_ GE215.out) | exact HB.out))); (case side2 => exact HC0_0.out); (case side3 => exact Kd.C_below HR0_1.out (by repeat (first | (with_reducible first | exact HB.out | apply below_alloc | refine below_set ?_ GE200.out | refine below_set ?_ GE215.out) | exact HB.out))); (case side4 => exact HC0_1.out); rintro e w26 ⟨v217, v220, rfl, ho0, ho1, hb⟩; refine ⟨_, rfl, ?_⟩; have n0_ := Aside0.mk (Kd.R_mono (Kd.R_told (Kd.R_told (Kd.R_old (by (with_reducible repeat (first | apply Kd.R_alloc)); exact (Kd.R_mono (Kd.R_far (p := ⟨gb215, 1, none⟩) (Kd.R_far (p := ⟨gb215, 0, none⟩) (Kd.R_types HO204.out BK215.out (by decide)) (fun _ hk => hk.2) (.slice Ao21 t208.length co21)) (fun _ hk => hk.2) (.slice Ao24 t211.length co24)) (fun _ h_ => h_.1))) hb) (Kd.R_base ho0)) (Kd.R_base ho1)) (fun _ h_ => h_.1)); have n1_ := Aside0.mk (Kd.R_mono (Kd.R_told (Kd.R_told (Kd.R_old (by (with_reducible repeat (first | apply Kd.R_alloc)); exact (Kd.R_mono (Kd.R_far (p := ⟨gb215, 1, none⟩) (Kd.R_far (p := ⟨gb215, 0, none⟩) (Kd.R_types HO207.out BK215.out (by decide)) (fun _ hk => hk.2) (.slice Ao21 t208.length co21)) (fun _ hk => hk.2) (.slice Ao24 t211.length co24)) (fun _ h_ => h_.1))) hb) (Kd.R_base ho0)) (Kd.R_base ho1)) (fun _ h_ => h_.1)); have n2_ := Aside0.mk (Kd.R_mono (Kd.R_told (Kd.R_told (Kd.R_old (by (with_reducible repeat (first | apply Kd.R_alloc)); exact (Kd.R_mono (Kd.R_far (p := ⟨gb215, 1, none⟩) (Kd.R_far (p := ⟨gb215, 0, none⟩) (Kd.R_types HO210.out BK215.out (by decide)) (fun _ hk => hk.2) (.slice Ao21 t208.length co21)) (fun _ hk => hk.2) (.slice Ao24 t211.length co24)) (fun _ h_ => h_.1))) hb) (Kd.R_base ho0)) (Kd.R_base ho1)) (fun _ h_ => h_.1)); have n3_ := Aside0.mk (Kd.R_mono (Kd.R_told (Kd.R_told (Kd.R_old (by (with_reducible repeat (first | apply Kd.R_alloc)); exact (Kd.R_mono (Kd.R_far (p := ⟨gb215, 1, none⟩) (Kd.R_far (p := ⟨gb215, 0, none⟩) (Kd.R_types HO213.out BK215.out (by decide)) (fun _ hk => hk.2) (.slice Ao21 t208.length co21)) (fun _ hk => hk.2) (.slice Ao24 t211.length co24)) (fun _ h_ => h_.1))) hb) (Kd.R_base ho0)) (Kd.R_base ho1)) (fun _ h_ => h_.1)); have n4_ := Aside0.mk (Kd.R_lower (Kd.R_new' (Kd.R_new' (Kd.R_new' (Kd.R_new' ho0 (Kd.R_lt (by (with_reducible repeat (first | apply Kd.R_alloc)); exact (Kd.R_mono (Kd.R_far (p := ⟨gb215, 1, none⟩) (Kd.R_far (p := ⟨gb215, 0, none⟩) (Kd.R_types HO204.out BK215.out (by decide)) (fun _ hk => hk.2) (.slice Ao21 t208.length co21)) (fun _ hk => hk.2) (.slice Ao24 t211.length co24)) (fun _ h_ => h_.1))))) (Kd.R_lt (by (with_reducible repeat (first | apply Kd.R_alloc)); exact (Kd.R_mono (Kd.R_far (p := ⟨gb215, 1, none⟩) (Kd.R_far (p := ⟨gb215, 0, none⟩) (Kd.R_types HO207.out BK215.out (by decide)) (fun _ hk => hk.2) (.slice Ao21 t208.length co21)) (fun _ hk => hk.2) (.slice Ao24 t211.length co24)) (fun _ h_ => h_.1))))) (Kd.R_lt (by (with_reducible repeat (first | apply Kd.R_alloc)); exact (Kd.R_mono (Kd.R_far (p := ⟨gb215, 1, none⟩) (Kd.R_far (p := ⟨gb215, 0, none⟩) (Kd.R_types HO210.out BK215.out (by decide)) (fun _ hk => hk.2) (.slice Ao21 t208.length co21)) (fun _ hk => hk.2) (.slice Ao24 t211.length co24)) (fun _ h_ => h_.1))))) (Kd.R_lt (by (with_reducible repeat (first | apply Kd.R_alloc)); exact (Kd.R_mono (Kd.R_far (p := ⟨gb215, 1, none⟩) (Kd.R_far (p := ⟨gb215, 0, none⟩) (Kd.R_types HO213.out BK215.out (by decide)) (fun _ hk => hk.2) (.slice Ao21 t208.length co21)) (fun _ hk => hk.2) (.slice Ao24 t211.length co24)) (fun _ h_ => h_.1))))) (below_size (by repeat (first | (with_reducible first | exact HB.out | apply below_alloc | refine below_set ?_ GE200.out | refine below_set ?_ GE215.out) | exact HB.out)))); have n5_ := Aside0.mk (Kd.R_lower (Kd.R_new' (Kd.R_new' (Kd.R_new' (Kd.R_new' ho1 (Kd.R_lt (by (with_reducible repeat (first | apply Kd.R_alloc)); exact (Kd.R_mono (Kd.R_far (p := ⟨gb215, 1, none⟩) (Kd.R_far (p := ⟨gb215, 0, none⟩) (Kd.R_types HO204.out BK215.out (by decide)) (fun _ hk => hk.2) (.slice Ao21 t208.length co21)) (fun _ hk => hk.2) (.slice Ao24 t211.length co24)) (fun _ h_ => h_.1))))) (Kd.R_lt (by (with_reducible repeat (first | apply Kd.R_alloc)); exact (Kd.R_mono (Kd.R_far (p := ⟨gb215, 1, none⟩) (Kd.R_far (p := ⟨gb215, 0, none⟩) (Kd.R_types HO207.out BK215.out (by decide)) (fun _ hk => hk.2) (.slice Ao21 t208.length co21)) (fun _ hk => hk.2) (.slice Ao24 t211.length co24)) (fun _ h_ => h_.1))))) (Kd.R_lt (by (with_reducible repeat (first | apply Kd.R_alloc)); exact (Kd.R_mono (Kd.R_far (p := ⟨gb215, 1, none⟩) (Kd.R_far (p := ⟨gb215, 0, none⟩) (Kd.R_types HO210.out BK215.out (by decide)) (fun _ hk => hk.2) (.slice Ao21 t208.length co21)) (fun _ hk => hk.2) (.slice Ao24 t211.length co24)) (fun _ h_ => h_.1))))) (Kd.R_lt (by (with_reducible repeat (first | apply Kd.R_alloc)); exact (Kd.R_mono (Kd.R_far (p := ⟨gb215, 1, none⟩) (Kd.R_far (p := ⟨gb215, 0, none⟩) (Kd.R_types HO213.out BK215.out (by decide)) (fun _ hk => hk.2) (.slice Ao21 t208.length co21)) (fun _ hk => hk.2) (.slice Ao24 t211.length co24)) (fun _ h_ => h_.1))))) (below_size (by repeat (first | (with_reducible first | exact HB.out | apply below_alloc | refine below_set ?_ GE200.out | refine below_set ?_ GE215.out) | exact HB.out)))); have n6_ := Aside0.mk (blk_below (g := gb200) (o := .cells #[.slice A0_0 l0_0.length c0_0, .slice A0_1 l0_1.length c0_1] 38 (0, 0)) (by (with_reducible repeat (refine blk_alloc ?_ _)); refine blk_far ?_ NB200_215.out _; (with_reducible repeat (refine blk_alloc ?_ _)); refine blk_far ?_ NB200_215.out _; (with_reducible repeat (refine blk_alloc ?_ _)); exact BK200.out) hb); have n7_ := Aside0.mk (blk_below (g := gb215) (o := .cells #[.slice Ao21 t208.length co21, .slice Ao24 t211.length co24] 40 (0, 0)) (by (with_reducible repeat (refine blk_alloc ?_ _)); refine blk_put (cs := #[.slice Ao21 t208.length co21, .slice none 0 0]) ?_ 1 _ rfl; (with_reducible repeat (refine blk_alloc ?_ _)); refine blk_put (cs := #[.slice none 0 0, .slice none 0 0]) ?_ 0 _ rfl; (with_reducible repeat (refine blk_alloc ?_ _)); exact BK215.out) hb); have n8_ := Aside0.mk (below_step (by repeat (first | (with_reducible first | exact HB.out | apply below_alloc | refine below_set ?_ GE200.out | refine below_set ?_ GE215.out) | exact HB.out)) hb); clear HO204; clear HO207; clear HO210; clear HO213; clear BK200; clear BK215; clear HB; have HO204 := n0_; have HO207 := n1_; have HO210 := n2_; have HO213 := n3_; have HO218 := n4_; have HO221 := n5_; have BK200 := n6_; have BK215 := n7_; have HB := n8_; clear n0_ n1_ n2_ n3_ n4_ n5_ n6_ n7_ n8_; (try clear hb); (try clear hb2); (try clear hk); (try clear hi); (try clear ho0); (try clear ho1)) | ((with_reducible refine gate_dst (N := 6) rfl ?_); refine box_event ?hg (N := 6) ?hd (cs := #[.slice none 0 0, .slice none 0 0]) (t := 40) ?hr ?_; (case hd => rfl); (case hg => rfl); (case hr => first | (go_simp; done) | (go_simp; rfl)); intro gb222 hg w27 hbox hb; have n0_ := Aside0.mk (Kd.R_below (by (with_reducible repeat (first | apply Kd.R_alloc)); exact HO204.out) hb); have n1_ := Aside0.mk (Kd.R_below (by (with_reducible repeat (first | apply Kd.R_alloc)); exact HO207.out) hb); have n2_ := Aside0.mk (Kd.R_below (by (with_reducible repeat (first | apply Kd.R_alloc)); exact HO210.out) hb); have n3_ := Aside0.mk (Kd.R_below (by (with_reducible repeat (first | apply Kd.R_alloc)); exact HO213.out) hb); have n4_ := Aside0.mk (Kd.R_below (by (with_reducible repeat (first | apply Kd.R_alloc)); exact HO218.out) hb); have n5_ := Aside0.mk (Kd.R_below (by (with_reducible repeat (first | apply Kd.R_alloc)); exact HO221.out) hb); have n6_ := Aside0.mk (blk_below (g := gb200) (o := .cells #[.slice A0_0 l0_0.length c0_0, .slice A0_1 l0_1.length c0_1] 38 (0, 0)) (by (with_reducible repeat (refine blk_alloc ?_ _)); exact BK200.out) hb); have n7_ := Aside0.mk (blk_below (g := gb215) (o := .cells #[.slice Ao21 t208.length co21, .slice Ao24 t211.length co24] 40 (0, 0)) (by (with_reducible repeat (refine blk_alloc ?_ _)); exact BK215.out) hb); have n8_ := Aside0.mk (below_step (by repeat (first | (with_reducible first | exact HB.out | apply below_alloc | refine below_set ?_ GE200.out | refine below_set ?_ GE215.out) | exact HB.out)) hb); have n9_ := Aside0.mk (hbox); have n10_ := Aside0.mk ((by rw [hg]; exact (below_size (by repeat (first | (with_reducible first | exact HB.out | apply below_alloc | refine below_set ?_ GE200.out | refine below_set ?_ GE215.out) | exact HB.out))) : w.heap.size ≤ gb222)); have n11_ := Aside0.mk ((by rw [hg]; exact (below_size (by repeat (first | (with_reducible first | exact HB.out | apply below_alloc | refine below_set ?_ GE200.out | refine below_set ?_ GE215.out) | exact HB.out))) : w.heap.size ≤ gb222)); have n12_ := Aside0.mk ((by rw [hg]; exact Nat.ne_of_lt (blk_lt (g := gb200) (o := .cells #[.slice A0_0 l0_0.length c0_0, .slice A0_1 l0_1.length c0_1] 38 (0, 0)) (by (with_reducible repeat (refine blk_alloc ?_ _)); exact BK200.out)) : gb200 ≠ gb222)); have n13_ := Aside0.mk ((by rw [hg]; exact Nat.ne_of_gt (blk_lt (g := gb200) (o := .cells #[.slice A0_0 l0_0.length c0_0, .slice A0_1 l0_1.length c0_1] 38 (0, 0)) (by (with_reducible repeat (refine blk_alloc ?_ _)); exact BK200.out)) : gb222 ≠ gb200)); have n14_ := Aside0.mk ((by rw [hg]; exact Nat.ne_of_lt (blk_lt (g := gb215) (o := .cells #[.slice Ao21 t208.length co21, .slice Ao24 t211.length co24] 40 (0, 0)) (by (with_reducible repeat (refine blk_alloc ?_ _)); exact BK215.out)) : gb215 ≠ gb222)); have n15_ := Aside0.mk ((by rw [hg]; exact Nat.ne_of_gt (blk_lt (g := gb215) (o := .cells #[.slice Ao21 t208.length co21, .slice Ao24 t211.length co24] 40 (0, 0)) (by (with_reducible repeat (refine blk_alloc ?_ _)); exact BK215.out)) : gb222 ≠ gb215)); clear HO204; clear HO207; clear HO210; clear HO213; clear HO218; clear HO221; clear BK200; clear BK215; clear HB; have HO204 := n0_; have HO207 := n1_; have HO210 := n2_; have HO213 := n3_; have HO218 := n4_; have HO221 := n5_; have BK200 := n6_; have BK215 := n7_; have HB := n8_; have BK222 := n9_; have GW222 := n10_; have GE222 := n11_; have NB200_222 := n12_; have NB222_200 := n13_; have NB215_222 := n14_; have NB222_215 := n15_; clear n0_ n1_ n2_ n3_ n4_ n5_ n6_ n7_ n8_ n9_ n10_ n11_ n12_ n13_ n14_ n15_; clear hb hbox hg; obtain ⟨Ao28, co28, eo28⟩ := Kd.R_slice HO218.out; subst eo28; have hnb29 := NB222_200.out; have hnc29 := NB200_222.out; have hnb30 := NB222_215.out; have hnc30 := NB215_222.out; have hcz31_0 : w27.cell? ⟨gb222, 0, none⟩ = some (.slice none 0 0) := (blk_cell BK222.out 0).trans rfl; have hcz31_1 : w27.cell? ⟨gb222, 1, none⟩ = some (.slice none 0 0) := (blk_cell BK222.out 1).trans rfl; have hfz31_0 := blk_frozen BK222.out 0; have hfz31_1 := blk_frozen BK222.out 1; obtain ⟨Ao32, co32, eo32⟩ := Kd.R_slice HO221.out; subst eo32) | ((with_reducible refine gate_store (t := 40) (p := 6) rfl ?_); refine store_event (t := 40) (p := 6) (v := ?vo_w33) (w1 := ((w27.setCell ⟨gb222, 0, none⟩ (.slice Ao28 t216.length co28)).setCell ⟨gb222, 1, none⟩ (.slice Ao32 t219.length co32))) ?hg ?ho ?hn ?hr ?_; (case ho => rfl); (case hg => rfl); (case hn => rfl); (case hr => first | (go_simp; done) | (go_simp; rfl)); intro w33 hw; have n0_ : Aside0 (Kd.R Kd.string 9 w33 w.heap.size (fun k_ => some k_ ≠ (.slice Ao18 t205.length co18 : Value).ownBlock ∧ some k_ ≠ (.slice Ao21 t208.length co21 : Value).ownBlock ∧ some k_ ≠ (.slice Ao24 t211.length co24 : Value).ownBlock ∧ some k_ ≠ (.slice Ao28 t216.length co28 : Value).ownBlock ∧ some k_ ≠ (.slice Ao32 t219.length co32 : Value).ownBlock) (.slice Ao17 t202.length co17) t202) := ⟨(by rw [hw]; exact (by (with_reducible repeat (first | apply Kd.R_alloc)); exact Kd.R_mono (Kd.R_far (p := ⟨gb222, 1, none⟩) (Kd.R_far (p := ⟨gb222, 0, none⟩) (Kd.R_types HO204.out BK222.out (by decide)) (fun _ hk => hk.2) (.slice Ao28 t216.length co28)) (fun _ hk => hk.2) (.slice Ao32 t219.length co32)) (fun _ hk => ⟨hk.1.1.1.1.1, ⟨hk.1.1.1.1.2, ⟨hk.1.1.1.2, ⟨hk.1.1.2, hk.1.2⟩⟩⟩⟩)))⟩; have n1_ : Aside0 (Kd.R Kd.string 9 w33 w.heap.size (fun k_ => some k_ ≠ (.slice Ao17 t202.length co17 : Value).ownBlock ∧ some k_ ≠ (.slice Ao21 t208.length co21 : Value).ownBlock ∧ some k_ ≠ (.slice Ao24 t211.length co24 : Value).ownBlock ∧ some k_ ≠ (.slice Ao28 t216.length co28 : Value).ownBlock ∧ some k_ ≠ (.slice Ao32 t219.length co32 : Value).ownBlock) (.slice Ao18 t205.length co18) t205) := ⟨(by rw [hw]; exact (by (with_reducible repeat (first | apply Kd.R_alloc)); exact Kd.R_mono (Kd.R_far (p := ⟨gb222, 1, none⟩) (Kd.R_far (p := ⟨gb222, 0, none⟩) (Kd.R_types HO207.out BK222.out (by decide)) (fun _ hk => hk.2) (.slice Ao28 t216.length co28)) (fun _ hk => hk.2) (.slice Ao32 t219.length co32)) (fun _ hk => ⟨hk.1.1.1.1.1, ⟨hk.1.1.1.1.2, ⟨hk.1.1.1.2, ⟨hk.1.1.2, hk.1.2⟩⟩⟩⟩)))⟩; have n2_ : Aside0 (Kd.R Kd.string 9 w33 w.heap.size (fun k_ => some k_ ≠ (.slice Ao17 t202.length co17 : Value).ownBlock ∧ some k_ ≠ (.slice Ao18 t205.length co18 : Value).ownBlock ∧ some k_ ≠ (.slice Ao24 t211.length co24 : Value).ownBlock ∧ some k_ ≠ (.slice Ao28 t216.length co28 : Value).ownBlock ∧ some k_ ≠ (.slice Ao32 t219.length co32 : Value).ownBlock) (.slice Ao21 t208.length co21) t208) := ⟨(by rw [hw]; exact (by (with_reducible repeat (first | apply Kd.R_alloc)); exact Kd.R_mono (Kd.R_far (p := ⟨gb222, 1, none⟩) (Kd.R_far (p := ⟨gb222, 0, none⟩) (Kd.R_types HO210.out BK222.out (by decide)) (fun _ hk => hk.2) (.slice Ao28 t216.length co28)) (fun _ hk => hk.2) (.slice Ao32 t219.length co32)) (fun _ hk => ⟨hk.1.1.1.1.2, ⟨hk.1.1.1.2, ⟨hk.1.1.1.1.1, ⟨hk.1.1.2, hk.1.2⟩⟩⟩⟩)))⟩; have n3_ : Aside0 (Kd.R Kd.string 9 w33 w.heap.size (fun k_ => some k_ ≠ (.slice Ao17 t202.length co17 : Value).ownBlock ∧ some k_ ≠ (.slice Ao18 t205.length co18 : Value).ownBlock ∧ some k_ ≠ (.slice Ao21 t208.length co21 : Value).ownBlock ∧ some k_ ≠ (.slice Ao28 t216.length co28 : Value).ownBlock ∧ some k_ ≠ (.slice Ao32 t219.length co32 : Value).ownBlock) (.slice Ao24 t211.length co24) t211) := ⟨(by rw [hw]; exact (by (with_reducible repeat (first | apply Kd.R_alloc)); exact Kd.R_mono (Kd.R_far (p := ⟨gb222, 1, none⟩) (Kd.R_far (p := ⟨gb222, 0, none⟩) (Kd.R_types HO213.out BK222.out (by decide)) (fun _ hk => hk.2) (.slice Ao28 t216.length co28)) (fun _ hk => hk.2) (.slice Ao32 t219.length co32)) (fun _ hk => ⟨hk.1.1.1.1.2, ⟨hk.1.1.1.2, ⟨hk.1.1.1.1.1, ⟨hk.1.1.2, hk.1.2⟩⟩⟩⟩)))⟩; have n4_ : Aside0 (Kd.R Kd.string 9 w33 w.heap.size (fun k_ => some k_ ≠ (.slice Ao17 t202.length co17 : Value).ownBlock ∧ some k_ ≠ (.slice Ao18 t205.length co18 : Value).ownBlock ∧ some k_ ≠ (.slice Ao21 t208.length co21 : Value).ownBlock ∧ some k_ ≠ (.slice Ao24 t211.length co24 : Value).ownBlock ∧ some k_ ≠ (.slice Ao32 t219.length co32 : Value).ownBlock) (.slice Ao28 t216.length co28) t216) := ⟨(by rw [hw]; exact (by (with_reducible repeat (first | apply Kd.R_alloc)); exact Kd.R_mono (Kd.R_far (p := ⟨gb222, 1, none⟩) (Kd.R_far (p := ⟨gb222, 0, none⟩) (Kd.R_types HO218.out BK222.out (by decide)) (fun _ hk => hk.2) (.slice Ao28 t216.length co28)) (fun _ hk => hk.2) (.slice Ao32 t219.length co32)) (fun _ hk => ⟨hk.1.1.1.1.2, ⟨hk.1.1.1.2, ⟨hk.1.1.2, ⟨hk.1.2, hk.1.1.1.1.1⟩⟩⟩⟩)))⟩; have n5_ : Aside0 (Kd.R Kd.string 9 w33 w.heap.size (fun k_ => some k_ ≠ (.slice Ao17 t202.length co17 : Value).ownBlock ∧ some k_ ≠ (.slice Ao18 t205.length co18 : Value).ownBlock ∧ some k_ ≠ (.slice Ao21 t208.length co21 : Value).ownBlock ∧ some k_ ≠ (.slice Ao24 t211.length co24 : Value).ownBlock ∧ some k_ ≠ (.slice Ao28 t216.length co28 : Value).ownBlock) (.slice Ao32 t219.length co32) t219) := ⟨(by rw [hw]; exact (by (with_reducible repeat (first | apply Kd.R_alloc)); exact Kd.R_mono (Kd.R_far (p := ⟨gb222, 1, none⟩) (Kd.R_far (p := ⟨gb222, 0, none⟩) (Kd.R_types HO221.out BK222.out (by decide)) (fun _ hk => hk.2) (.slice Ao28 t216.length co28)) (fun _ hk => hk.2) (.slice Ao32 t219.length co32)) (fun _ hk => ⟨hk.1.1.1.1.2, ⟨hk.1.1.1.2, ⟨hk.1.1.2, ⟨hk.1.2, hk.1.1.1.1.1⟩⟩⟩⟩)))⟩; have n6_ : Aside0 (w33.heap[gb200]? = some (.cells #[.slice A0_0 l0_0.length c0_0, .slice A0_1 l0_1.length c0_1] 38 (0, 0))) := ⟨(by rw [hw]; exact (by (with_reducible repeat (refine blk_alloc ?_ _)); refine blk_far ?_ NB200_222.out _; (with_reducible repeat (refine blk_alloc ?_ _)); refine blk_far ?_ NB200_222.out _; (with_reducible repeat (refine blk_alloc ?_ _)); exact BK200.out))⟩; have n7_ : Aside0 (w33.heap[gb215]? = some (.cells #[.slice Ao21 t208.length co21, .slice Ao24 t211.length co24] 40 (0, 0))) := ⟨(by rw [hw]; exact (by (with_reducible repeat (refine blk_alloc ?_ _)); refine blk_far ?_ NB215_222.out _; (with_reducible repeat (refine blk_alloc ?_ _)); refine blk_far ?_ NB215_222.out _; (with_reducible repeat (refine blk_alloc ?_ _)); exact BK215.out))⟩; have n8_ : Aside0 (w33.heap[gb222]? = some (.cells #[.slice Ao28 t216.length co28, .slice Ao32 t219.length co32] 40 (0, 0))) := ⟨(by rw [hw]; exact (by (with_reducible repeat (refine blk_alloc ?_ _)); refine blk_put (cs := #[.slice Ao28 t216.length co28, .slice none 0 0]) ?_ 1 _ rfl; (with_reducible repeat (refine blk_alloc ?_ _)); refine blk_put (cs := #[.slice none 0 0, .slice none 0 0]) ?_ 0 _ rfl; (with_reducible repeat (refine blk_alloc ?_ _)); exact BK222.out))⟩; have n9_ : Aside0 (Below w.heap.size w w33) := ⟨(by rw [hw]; exact (by repeat (first | (with_reducible first | exact HB.out | apply below_alloc | refine below_set ?_ GE200.out | refine below_set ?_ GE215.out | refine below_set ?_ GE222.out) | exact HB.out)))⟩; clear hw; clear HO204; clear HO207; clear HO210; clear HO213; clear HO218; clear HO221; clear BK200; clear BK215; clear BK222; clear HB; have HO204 := n0_; have HO207 := n1_; have HO210 := n2_; have HO213 := n3_; have HO218 := n4_; have HO221 := n5_; have BK200 := n6_; have BK215 := n7_; have BK222 := n8_; have HB := n9_; clear n0_ n1_ n2_ n3_ n4_ n5_ n6_ n7_ n8_ n9_; have hcz34_0 : w33.cell? ⟨gb222, 0, none⟩ = some (.slice Ao28 t216.length co28) := (blk_cell BK222.out 0).trans rfl; have hcz34_1 : w33.cell? ⟨gb222, 1, none⟩ = some (.slice Ao32 t219.length co32) := (blk_cell BK222.out 1).trans rfl; have hfz34_0 := blk_frozen BK222.out 0; have hfz34_1 := blk_frozen BK222.out 1) | ((with_reducible refine gate_callee (f := 27) rfl ?_); refine goesL_ (some 29) rfl rfl Try.func27 (by kernel_rfl) rfl #[.agg #[.slice Ao28 t216.length co28, .slice Ao32 t219.length co32]] rfl (by (try simp only [List.map_toArray, List.map_cons, List.map_nil]); first | done | rfl | (simp only [List.length_drop, List.length_take]; rfl)) ?_; (with_reducible refine (impl_SyncDisk.calls k (fun k_ => some k_ = (.slice Ao28 t216.length co28 : Value).ownBlock) _ _ t216 (fun k_ => some k_ = (.slice Ao32 t219.length co32 : Value).ownBlock) _ _ t219 t223 t226 t229 _ ?side1 ?side2 A10.out).mono ?_); (case side1 => exact Kd.R_V (Kd.R_tight rfl (Kd.R_types (Kd.R_types (Kd.R_types (HO218.out) BK200.out (by decide)) BK215.out (by decide)) BK222.out (by decide)))); (case side2 => exact Kd.R_V (Kd.R_tight rfl (Kd.R_types (Kd.R_types (Kd.R_types (HO221.out) BK200.out (by decide)) BK215.out (by decide)) BK222.out (by decide)))); rintro e w35 ⟨v224, v227, rfl, ho0, ho1, hb⟩; refine ⟨_, rfl, ?_⟩; have n0_ := Aside0.mk (Kd.R_mono (Kd.R_told (Kd.R_told (Kd.R_old (by (with_reducible repeat (first | apply Kd.R_alloc)); exact HO204.out) hb) (Kd.R_base ho0)) (Kd.R_base ho1)) (fun _ h_ => h_.1)); have n1_ := Aside0.mk (Kd.R_mono (Kd.R_told (Kd.R_told (Kd.R_old (by (with_reducible repeat (first | apply Kd.R_alloc)); exact HO207.out) hb) (Kd.R_base ho0)) (Kd.R_base ho1)) (fun _ h_ => h_.1)); have n2_ := Aside0.mk (Kd.R_mono (Kd.R_told (Kd.R_told (Kd.R_old (by (with_reducible repeat (first | apply Kd.R_alloc)); exact HO210.out) hb) (Kd.R_base ho0)) (Kd.R_base ho1)) (fun _ h_ => h_.1)); have n3_ := Aside0.mk (Kd.R_mono (Kd.R_told (Kd.R_told (Kd.R_old (by (with_reducible repeat (first | apply Kd.R_alloc)); exact HO213.out) hb) (Kd.R_base ho0)) (Kd.R_base ho1)) (fun _ h_ => h_.1)); have n4_ := Aside0.mk (Kd.R_mono (Kd.R_told (Kd.R_told (Kd.R_old (by (with_reducible repeat (first | apply Kd.R_alloc)); exact HO218.out) hb) (Kd.R_base ho0)) (Kd.R_base ho1)) (fun _ h_ => h_.1)); have n5_ := Aside0.mk (Kd.R_mono (Kd.R_told (Kd.R_told (Kd.R_old (by (with_reducible repeat (first | apply Kd.R_alloc)); exact HO221.out) hb) (Kd.R_base ho0)) (Kd.R_base ho1)) (fun _ h_ => h_.1)); have n6_ := Aside0.mk (Kd.R_lower (Kd.R_new' (Kd.R_new' (Kd.R_new' (Kd.R_new' (Kd.R_new' (Kd.R_new' (Kd.R_mono (ok' := fun k_ => some k_ ≠ (v227 : Value).ownBlock) ho0 (fun _ hk_ => hk_.2)) (Kd.R_lt (by (with_reducible repeat (first | apply Kd.R_alloc)); exact HO204.out))) (Kd.R_lt (by (with_reducible repeat (first | apply Kd.R_alloc)); exact HO207.out))) (Kd.R_lt (by (with_reducible repeat (first | apply Kd.R_alloc)); exact HO210.out))) (Kd.R_lt (by (with_reducible repeat (first | apply Kd.R_alloc)); exact HO213.out))) (Kd.R_lt (by (with_reducible repeat (first | apply Kd.R_alloc)); exact HO218.out))) (Kd.R_lt (by (with_reducible repeat (first | apply Kd.R_alloc)); exact HO221.out))) (below_size (by repeat (first | (with_reducible first | exact HB.out | apply below_alloc | refine below_set ?_ GE200.out | refine below_set ?_ GE215.out | refine below_set ?_ GE222.out) | exact HB.out)))); have n7_ := Aside0.mk (Kd.R_lower (Kd.R_new' (Kd.R_new' (Kd.R_new' (Kd.R_new' (Kd.R_new' (Kd.R_new' (Kd.R_mono (ok' := fun k_ => some k_ ≠ (v224 : Value).ownBlock) ho1 (fun _ hk_ => hk_.2)) (Kd.R_lt (by (with_reducible repeat (first | apply Kd.R_alloc)); exact HO204.out))) (Kd.R_lt (by (with_reducible repeat (first | apply Kd.R_alloc)); exact HO207.out))) (Kd.R_lt (by (with_reducible repeat (first | apply Kd.R_alloc)); exact HO210.out))) (Kd.R_lt (by (with_reducible repeat (first | apply Kd.R_alloc)); exact HO213.out))) (Kd.R_lt (by (with_reducible repeat (first | apply Kd.R_alloc)); exact HO218.out))) (Kd.R_lt (by (with_reducible repeat (first | apply Kd.R_alloc)); exact HO221.out))) (below_size (by repeat (first | (with_reducible first | exact HB.out | apply below_alloc | refine below_set ?_ GE200.out | refine below_set ?_ GE215.out | refine below_set ?_ GE222.out) | exact HB.out)))); have n8_ := Aside0.mk (blk_below (g := gb200) (o := .cells #[.slice A0_0 l0_0.length c0_0, .slice A0_1 l0_1.length c0_1] 38 (0, 0)) (by (with_reducible repeat (refine blk_alloc ?_ _)); exact BK200.out) hb); have n9_ := Aside0.mk (blk_below (g := gb215) (o := .cells #[.slice Ao21 t208.length co21, .slice Ao24 t211.length co24] 40 (0, 0)) (by (with_reducible repeat (refine blk_alloc ?_ _)); exact BK215.out) hb); have n10_ := Aside0.mk (blk_below (g := gb222) (o := .cells #[.slice Ao28 t216.length co28, .slice Ao32 t219.length co32] 40 (0, 0)) (by (with_reducible repeat (refine blk_alloc ?_ _)); exact BK222.out) hb); have n11_ := Aside0.mk (below_step (by repeat (first | (with_reducible first | exact HB.out | apply below_alloc | refine below_set ?_ GE200.out | refine below_set ?_ GE215.out | refine below_set ?_ GE222.out) | exact HB.out)) hb); clear HO204; clear HO207; clear HO210; clear HO213; clear HO218; clear HO221; clear BK200; clear BK215; clear BK222; clear HB; have HO204 := n0_; have HO207 := n1_; have HO210 := n2_; have HO213 := n3_; have HO218 := n4_; have HO221 := n5_; have HO225 := n6_; have HO228 := n7_; have BK200 := n8_; have BK215 := n9_; have BK222 := n10_; have HB := n11_; clear n0_ n1_ n2_ n3_ n4_ n5_ n6_ n7_ n8_ n9_ n10_ n11_; (try clear hb); (try clear hb2); (try clear hk); (try clear hi); (try clear ho0); (try clear ho1)) | ((with_reducible refine gate_dst (N := 7) rfl ?_); refine box_event ?hg (N := 7) ?hd (cs := #[.slice none 0 0, .slice none 0 0]) (t := 40) ?hr ?_; (case hd => rfl); (case hg => rfl); (case hr => first | (go_simp; done) | (go_simp; rfl)); intro gb230 hg w36 hbox hb; have n0_ := Aside0.mk (Kd.R_below (by (with_reducible repeat (first | apply Kd.R_alloc)); exact HO204.out) hb); have n1_ := Aside0.mk (Kd.R_below (by (with_reducible repeat (first | apply Kd.R_alloc)); exact HO207.out) hb); have n2_ := Aside0.mk (Kd.R_below (by (with_reducible repeat (first | apply Kd.R_alloc)); exact HO210.out) hb); have n3_ := Aside0.mk (Kd.R_below (by (with_reducible repeat (first | apply Kd.R_alloc)); exact HO213.out) hb); have n4_ := Aside0.mk (Kd.R_below (by (with_reducible repeat (first | apply Kd.R_alloc)); exact HO218.out) hb); have n5_ := Aside0.mk (Kd.R_below (by (with_reducible repeat (first | apply Kd.R_alloc)); exact HO221.out) hb); have n6_ := Aside0.mk (Kd.R_below (by (with_reducible repeat (first | apply Kd.R_alloc)); exact HO225.out) hb); have n7_ := Aside0.mk (Kd.R_below (by (with_reducible repeat (first | apply Kd.R_alloc)); exact HO228.out) hb); have n8_ := Aside0.mk (blk_below (g := gb200) (o := .cells #[.slice A0_0 l0_0.length c0_0, .slice A0_1 l0_1.length c0_1] 38 (0, 0)) (by (with_reducible repeat (refine blk_alloc ?_ _)); exact BK200.out) hb); have n9_ := Aside0.mk (blk_below (g := gb215) (o := .cells #[.slice Ao21 t208.length co21, .slice Ao24 t211.length co24] 40 (0, 0)) (by (with_reducible repeat (refine blk_alloc ?_ _)); exact BK215.out) hb); have n10_ := Aside0.mk (blk_below (g := gb222) (o := .cells #[.slice Ao28 t216.length co28, .slice Ao32 t219.length co32] 40 (0, 0)) (by (with_reducible repeat (refine blk_alloc ?_ _)); exact BK222.out) hb); have n11_ := Aside0.mk (below_step (by repeat (first | (with_reducible first | exact HB.out | apply below_alloc | refine below_set ?_ GE200.out | refine below_set ?_ GE215.out | refine below_set ?_ GE222.out) | exact HB.out)) hb); have n12_ := Aside0.mk (hbox); have n13_ := Aside0.mk ((by rw [hg]; exact (below_size (by repeat (first | (with_reducible first | exact HB.out | apply below_alloc | refine below_set ?_ GE200.out | refine below_set ?_ GE215.out | refine below_set ?_ GE222.out) | exact HB.out))) : w.heap.size ≤ gb230)); have n14_ := Aside0.mk ((by rw [hg]; exact (below_size (by repeat (first | (with_reducible first | exact HB.out | apply below_alloc | refine below_set ?_ GE200.out | refine below_set ?_ GE215.out | refine below_set ?_ GE222.out) | exact HB.out))) : w.heap.size ≤ gb230)); have n15_ := Aside0.mk ((by rw [hg]; exact Nat.ne_of_lt (blk_lt (g := gb200) (o := .cells #[.slice A0_0 l0_0.length c0_0, .slice A0_1 l0_1.length c0_1] 38 (0, 0)) (by (with_reducible repeat (refine blk_alloc ?_ _)); exact BK200.out)) : gb200 ≠ gb230)); have n16_ := Aside0.mk ((by rw [hg]; exact Nat.ne_of_gt (blk_lt (g := gb200) (o := .cells #[.slice A0_0 l0_0.length c0_0, .slice A0_1 l0_1.length c0_1] 38 (0, 0)) (by (with_reducible repeat (refine blk_alloc ?_ _)); exact BK200.out)) : gb230 ≠ gb200)); have n17_ := Aside0.mk ((by rw [hg]; exact Nat.ne_of_lt (blk_lt (g := gb215) (o := .cells #[.slice Ao21 t208.length co21, .slice Ao24 t211.length co24] 40 (0, 0)) (by (with_reducible repeat (refine blk_alloc ?_ _)); exact BK215.out)) : gb215 ≠ gb230)); have n18_ := Aside0.mk ((by rw [hg]; exact Nat.ne_of_gt (blk_lt (g := gb215) (o := .cells #[.slice Ao21 t208.length co21, .slice Ao24 t211.length co24] 40 (0, 0)) (by (with_reducible repeat (refine blk_alloc ?_ _)); exact BK215.out)) : gb230 ≠ gb215)); have n19_ := Aside0.mk ((by rw [hg]; exact Nat.ne_of_lt (blk_lt (g := gb222) (o := .cells #[.slice Ao28 t216.length co28, .slice Ao32 t219.length co32] 40 (0, 0)) (by (with_reducible repeat (refine blk_alloc ?_ _)); exact BK222.out)) : gb222 ≠ gb230)); have n20_ := Aside0.mk ((by rw [hg]; exact Nat.ne_of_gt (blk_lt (g := gb222) (o := .cells #[.slice Ao28 t216.length co28, .slice Ao32 t219.length co32] 40 (0, 0)) (by (with_reducible repeat (refine blk_alloc ?_ _)); exact BK222.out)) : gb230 ≠ gb222)); clear HO204; clear HO207; clear HO210; clear HO213; clear HO218; clear HO221; clear HO225; clear HO228; clear BK200; clear BK215; clear BK222; clear HB; have HO204 := n0_; have HO207 := n1_; have HO210 := n2_; have HO213 := n3_; have HO218 := n4_; have HO221 := n5_; have HO225 := n6_; have HO228 := n7_; have BK200 := n8_; have BK215 := n9_; have BK222 := n10_; have HB := n11_; have BK230 := n12_; have GW230 := n13_; have GE230 := n14_; have NB200_230 := n15_; have NB230_200 := n16_; have NB215_230 := n17_; have NB230_215 := n18_; have NB222_230 := n19_; have NB230_222 := n20_; clear n0_ n1_ n2_ n3_ n4_ n5_ n6_ n7_ n8_ n9_ n10_ n11_ n12_ n13_ n14_ n15_ n16_ n17_ n18_ n19_ n20_; clear hb hbox hg; obtain ⟨Ao37, co37, eo37⟩ := Kd.R_slice HO225.out; subst eo37; have hnb38 := NB230_200.out; have hnc38 := NB200_230.out; have hnb39 := NB230_215.out; have hnc39 := NB215_230.out; have hnb40 := NB230_222.out; have hnc40 := NB222_230.out; have hcz41_0 : w36.cell? ⟨gb230, 0, none⟩ = some (.slice none 0 0) := (blk_cell BK230.out 0).trans rfl; have hcz41_1 : w36.cell? ⟨gb230, 1, none⟩ = some (.slice none 0 0) := (blk_cell BK230.out 1).trans rfl; have hfz41_0 := blk_frozen BK230.out 0; have hfz41_1 := blk_frozen BK230.out 1; obtain ⟨Ao42, co42, eo42⟩ := Kd.R_slice HO228.out; subst eo42))
    (try simp only [Act.put, List.setIfInBounds_toArray, List.set_cons_zero, List.set_cons_succ])
    go_cut [40] (fun v40 wc => ∃ (kq : Nat) (x40_10 : Bool), v40 = .bool x40_10 ∧ Aside0 (laws_FnExactSyncDisk.j0 kq t214 t229 x40_10 l0_0 l0_1 t208 t211 t216 t219 t223 t226 = some r) ∧ Aside0 (kq ≤ k) ∧ Aside0 (Kd.R Kd.string 9 wc w.heap.size (fun k_ => some k_ ≠ ((.slice Ao24 t211.length co24) : Value).ownBlock ∧ some k_ ≠ ((.slice Ao28 t216.length co28) : Value).ownBlock ∧ some k_ ≠ ((.slice Ao32 t219.length co32) : Value).ownBlock ∧ some k_ ≠ ((.slice Ao37 t223.length co37) : Value).ownBlock ∧ some k_ ≠ ((.slice Ao42 t226.length co42) : Value).ownBlock) (.slice Ao21 t208.length co21) t208) ∧ Aside0 (Kd.R Kd.string 9 wc w.heap.size (fun k_ => some k_ ≠ ((.slice Ao21 t208.length co21) : Value).ownBlock ∧ some k_ ≠ ((.slice Ao28 t216.length co28) : Value).ownBlock ∧ some k_ ≠ ((.slice Ao32 t219.length co32) : Value).ownBlock ∧ some k_ ≠ ((.slice Ao37 t223.length co37) : Value).ownBlock ∧ some k_ ≠ ((.slice Ao42 t226.length co42) : Value).ownBlock) (.slice Ao24 t211.length co24) t211) ∧ Aside0 (Kd.R Kd.string 9 wc w.heap.size (fun k_ => some k_ ≠ ((.slice Ao21 t208.length co21) : Value).ownBlock ∧ some k_ ≠ ((.slice Ao24 t211.length co24) : Value).ownBlock ∧ some k_ ≠ ((.slice Ao32 t219.length co32) : Value).ownBlock ∧ some k_ ≠ ((.slice Ao37 t223.length co37) : Value).ownBlock ∧ some k_ ≠ ((.slice Ao42 t226.length co42) : Value).ownBlock) (.slice Ao28 t216.length co28) t216) ∧ Aside0 (Kd.R Kd.string 9 wc w.heap.size (fun k_ => some k_ ≠ ((.slice Ao21 t208.length co21) : Value).ownBlock ∧ some k_ ≠ ((.slice Ao24 t211.length co24) : Value).ownBlock ∧ some k_ ≠ ((.slice Ao28 t216.length co28) : Value).ownBlock ∧ some k_ ≠ ((.slice Ao37 t223.length co37) : Value).ownBlock ∧ some k_ ≠ ((.slice Ao42 t226.length co42) : Value).ownBlock) (.slice Ao32 t219.length co32) t219) ∧ Aside0 (Kd.R Kd.string 9 wc w.heap.size (fun k_ => some k_ ≠ ((.slice Ao21 t208.length co21) : Value).ownBlock ∧ some k_ ≠ ((.slice Ao24 t211.length co24) : Value).ownBlock ∧ some k_ ≠ ((.slice Ao28 t216.length co28) : Value).ownBlock ∧ some k_ ≠ ((.slice Ao32 t219.length co32) : Value).ownBlock ∧ some k_ ≠ ((.slice Ao42 t226.length co42) : Value).ownBlock) (.slice Ao37 t223.length co37) t223) ∧ Aside0 (Kd.R Kd.string 9 wc w.heap.size (fun k_ => some k_ ≠ ((.slice Ao21 t208.length co21) : Value).ownBlock ∧ some k_ ≠ ((.slice Ao24 t211.length co24) : Value).ownBlock ∧ some k_ ≠ ((.slice Ao28 t216.length co28) : Value).ownBlock ∧ some k_ ≠ ((.slice Ao32 t219.length co32) : Value).ownBlock ∧ some k_ ≠ ((.slice Ao37 t223.length co37) : Value).ownBlock) (.slice Ao42 t226.length co42) t226) ∧ Aside0 (wc.heap[gb200]? = some (.cells #[(.slice A0_0 l0_0.length c0_0), (.slice A0_1 l0_1.length c0_1)] 38 (0, 0))) ∧ Aside0 (wc.heap[gb215]? = some (.cells #[(.slice Ao21 t208.length co21), (.slice Ao24 t211.length co24)] 40 (0, 0))) ∧ Aside0 (wc.heap[gb222]? = some (.cells #[(.slice Ao28 t216.length co28), (.slice Ao32 t219.length co32)] 40 (0, 0))) ∧ Aside0 (wc.heap[gb230]? = some (.cells #[(.slice Ao37 t223.length co37), (.slice Ao42 t226.length co42)] 40 (0, 0))) ∧ Aside0 (Below w.heap.size w wc))
    case first =>
      have H := HC11.out
      clear HC11
      replace H := Option.bind_eq_some_iff.mp H
      obtain ⟨t231, A430, H⟩ := H
      replace H : (if t231 = true then (laws_FnExactSyncDisk.j0 k t214 t229 (t229 != t214) l0_0 l0_1 t208 t211 t216 t219 t223 t226) else (laws_FnExactSyncDisk.j0 k t214 t229 true l0_0 l0_1 t208 t211 t216 t219 t223 t226)) = some r := H
      have A43 := Aside0.mk A430
      clear A430
      by_cases c44 : t231 = true
      · subst c44
        have H1 : (laws_FnExactSyncDisk.j0 k t214 t229 (t229 != t214) l0_0 l0_1 t208 t211 t216 t219 t223 t226) = some r := by rw [if_pos rfl] at H; exact H
        clear H
        have H := H1
        clear H1
        have H' := Aside0.mk H
        clear H
        have hnb45 := NB230_200.out
        have hnc45 := NB200_230.out
        have hnb46 := NB230_215.out
        have hnc46 := NB215_230.out
        have hnb47 := NB230_222.out
        have hnc47 := NB222_230.out
        have hcz48_0 : w36.cell? ⟨gb230, 0, none⟩ = some (.slice none 0 0) := (blk_cell BK230.out 0).trans rfl
        have hcz48_1 : w36.cell? ⟨gb230, 1, none⟩ = some (.slice none 0 0) := (blk_cell BK230.out 1).trans rfl
        have hfz48_0 := blk_frozen BK230.out 0
        have hfz48_1 := blk_frozen BK230.out 1
        have hnb49 := NB215_200.out
        have hnc49 := NB200_215.out
        have hnb50 := NB215_222.out
        have hnc50 := NB222_215.out
        have hcz51_0 : w36.cell? ⟨gb215, 0, none⟩ = some (.slice Ao21 t208.length co21) := (blk_cell BK215.out 0).trans rfl
        have hcz51_1 : w36.cell? ⟨gb215, 1, none⟩ = some (.slice Ao24 t211.length co24) := (blk_cell BK215.out 1).trans rfl
        have hfz51_0 := blk_frozen BK215.out 0
        have hfz51_1 := blk_frozen BK215.out 1
        go_wp2_with (first | ((with_reducible refine gate_callee (f := 28) rfl ?_); refine goesL_ (some 34) rfl rfl Try.func28 (by kernel_rfl) rfl #[.agg #[.slice Ao37 t223.length co37, .slice Ao42 t226.length co42], .agg #[.slice Ao21 t208.length co21, .slice Ao24 t211.length co24]] rfl (by (try simp only [List.map_toArray, List.map_cons, List.map_nil]); first | done | rfl | (simp only [List.length_drop, List.length_take]; rfl)) ?_; (with_reducible refine (laws_eqDisk.calls k _ _ t223 _ _ t226 _ _ t208 _ _ t211 true _ ?side1 ?side2 ?side3 ?side4 ?side5 ?side6 ?side7 ?side8 A43.out).mono ?_); (case side1 => refine (Kd.R_reads' (e := 9) (base := w.heap.size) (ok := fun k_ => ((((((some k_ ≠ (.slice Ao42 t226.length co42 : Value).ownBlock ∧ some k_ ≠ (.slice Ao17 t202.length co17 : Value).ownBlock) ∧ some k_ ≠ (.slice Ao18 t205.length co18 : Value).ownBlock) ∧ some k_ ≠ (.slice Ao21 t208.length co21 : Value).ownBlock) ∧ some k_ ≠ (.slice Ao24 t211.length co24 : Value).ownBlock) ∧ some k_ ≠ (.slice Ao28 t216.length co28 : Value).ownBlock) ∧ some k_ ≠ (.slice Ao32 t219.length co32 : Value).ownBlock)) (n := t223.length) (c := co37) ?_).2.2; exact (by (with_reducible repeat (first | apply Kd.R_alloc)); exact (Kd.R_mono (Kd.R_far (p := ⟨gb230, 1, none⟩) (Kd.R_far (p := ⟨gb230, 0, none⟩) (Kd.R_types HO225.out BK230.out (by decide)) (fun _ hk => hk.2) (.slice Ao37 t223.length co37)) (fun _ hk => hk.2) (.slice Ao42 t226.length co42)) (fun _ h_ => h_.1)))); (case side2 => exact (Kd.R_reads' HO225.out).2.1); (case side3 => refine (Kd.R_reads' (e := 9) (base := w.heap.size) (ok := fun k_ => ((((((some k_ ≠ (.slice Ao37 t223.length co37 : Value).ownBlock ∧ some k_ ≠ (.slice Ao17 t202.length co17 : Value).ownBlock) ∧ some k_ ≠ (.slice Ao18 t205.length co18 : Value).ownBlock) ∧ some k_ ≠ (.slice Ao21 t208.length co21 : Value).ownBlock) ∧ some k_ ≠ (.slice Ao24 t211.length co24 : Value).ownBlock) ∧ some k_ ≠ (.slice Ao28 t216.length co28 : Value).ownBlock) ∧ some k_ ≠ (.slice Ao32 t219.length co32 : Value).ownBlock)) (n := t226.length) (c := co42) ?_).2.2; exact (by (with_reducible repeat (first | apply Kd.R_alloc)); exact (Kd.R_mono (Kd.R_far (p := ⟨gb230, 1, none⟩) (Kd.R_far (p := ⟨gb230, 0, none⟩) (Kd.R_types HO228.out BK230.out (by decide)) (fun _ hk => hk.2) (.slice Ao37 t223.length co37)) (fun _ hk => hk.2) (.slice Ao42 t226.length co42)) (fun _ h_ => h_.1)))); (case side4 => exact (Kd.R_reads' HO228.out).2.1); (case side5 => refine (Kd.R_reads' (e := 9) (base := w.heap.size) (ok := fun k_ => (((some k_ ≠ (.slice Ao17 t202.length co17 : Value).ownBlock ∧ (some k_ ≠ (.slice Ao18 t205.length co18 : Value).ownBlock ∧ (some k_ ≠ (.slice Ao24 t211.length co24 : Value).ownBlock ∧ (some k_ ≠ (.slice Ao28 t216.length co28 : Value).ownBlock ∧ some k_ ≠ (.slice Ao32 t219.length co32 : Value).ownBlock)))) ∧ some k_ ≠ (.slice Ao37 t223.length co37 : Value).ownBlock) ∧ some k_ ≠ (.slice Ao42 t226.length co42 : Value).ownBlock)) (n := t208.length) (c := co21) ?_).2.2; exact (by (with_reducible repeat (first | apply Kd.R_alloc)); exact (Kd.R_mono (Kd.R_far (p := ⟨gb230, 1, none⟩) (Kd.R_far (p := ⟨gb230, 0, none⟩) (Kd.R_types HO210.out BK230.out (by decide)) (fun _ hk => hk.2) (.slice Ao37 t223.length co37)) (fun _ hk => hk.2) (.slice Ao42 t226.length co42)) (fun _ h_ => h_.1)))); (case side6 => exact (Kd.R_reads' HO210.out).2.1); (case side7 => refine (Kd.R_reads' (e := 9) (base := w.heap.size) (ok := fun k_ => (((some k_ ≠ (.slice Ao17 t202.length co17 : Value).ownBlock ∧ (some k_ ≠ (.slice Ao18 t205.length co18 : Value).ownBlock ∧ (some k_ ≠ (.slice Ao21 t208.length co21 : Value).ownBlock ∧ (some k_ ≠ (.slice Ao28 t216.length co28 : Value).ownBlock ∧ some k_ ≠ (.slice Ao32 t219.length co32 : Value).ownBlock)))) ∧ some k_ ≠ (.slice Ao37 t223.length co37 : Value).ownBlock) ∧ some k_ ≠ (.slice Ao42 t226.length co42 : Value).ownBlock)) (n := t211.length) (c := co24) ?_).2.2; exact (by (with_reducible repeat (first | apply Kd.R_alloc)); exact (Kd.R_mono (Kd.R_far (p := ⟨gb230, 1, none⟩) (Kd.R_far (p := ⟨gb230, 0, none⟩) (Kd.R_types HO213.out BK230.out (by decide)) (fun _ hk => hk.2) (.slice Ao37 t223.length co37)) (fun _ hk => hk.2) (.slice Ao42 t226.length co42)) (fun _ h_ => h_.1)))); (case side8 => exact (Kd.R_reads' HO213.out).2.1); rintro e w52 ⟨rfl, hb⟩; refine ⟨_, rfl, ?_⟩; have n0_ := Aside0.mk (Kd.R_below (by (with_reducible repeat (first | apply Kd.R_alloc)); exact (Kd.R_mono (Kd.R_far (p := ⟨gb230, 1, none⟩) (Kd.R_far (p := ⟨gb230, 0, none⟩) (Kd.R_types HO204.out BK230.out (by decide)) (fun _ hk => hk.2) (.slice Ao37 t223.length co37)) (fun _ hk => hk.2) (.slice Ao42 t226.length co42)) (fun _ h_ => h_.1))) hb); have n1_ := Aside0.mk (Kd.R_below (by (with_reducible repeat (first | apply Kd.R_alloc)); exact (Kd.R_mono (Kd.R_far (p := ⟨gb230, 1, none⟩) (Kd.R_far (p := ⟨gb230, 0, none⟩) (Kd.R_types HO207.out BK230.out (by decide)) (fun _ hk => hk.2) (.slice Ao37 t223.length co37)) (fun _ hk => hk.2) (.slice Ao42 t226.length co42)) (fun _ h_ => h_.1))) hb); have n2_ := Aside0.mk (Kd.R_below (by (with_reducible repeat (first | apply Kd.R_alloc)); exact (Kd.R_mono (Kd.R_far (p := ⟨gb230, 1, none⟩) (Kd.R_far (p := ⟨gb230, 0, none⟩) (Kd.R_types HO210.out BK230.out (by decide)) (fun _ hk => hk.2) (.slice Ao37 t223.length co37)) (fun _ hk => hk.2) (.slice Ao42 t226.length co42)) (fun _ h_ => h_.1))) hb); have n3_ := Aside0.mk (Kd.R_below (by (with_reducible repeat (first | apply Kd.R_alloc)); exact (Kd.R_mono (Kd.R_far (p := ⟨gb230, 1, none⟩) (Kd.R_far (p := ⟨gb230, 0, none⟩) (Kd.R_types HO213.out BK230.out (by decide)) (fun _ hk => hk.2) (.slice Ao37 t223.length co37)) (fun _ hk => hk.2) (.slice Ao42 t226.length co42)) (fun _ h_ => h_.1))) hb); have n4_ := Aside0.mk (Kd.R_below (by (with_reducible repeat (first | apply Kd.R_alloc)); exact (Kd.R_mono (Kd.R_far (p := ⟨gb230, 1, none⟩) (Kd.R_far (p := ⟨gb230, 0, none⟩) (Kd.R_types HO218.out BK230.out (by decide)) (fun _ hk => hk.2) (.slice Ao37 t223.length co37)) (fun _ hk => hk.2) (.slice Ao42 t226.length co42)) (fun _ h_ => h_.1))) hb); have n5_ := Aside0.mk (Kd.R_below (by (with_reducible repeat (first | apply Kd.R_alloc)); exact (Kd.R_mono (Kd.R_far (p := ⟨gb230, 1, none⟩) (Kd.R_far (p := ⟨gb230, 0, none⟩) (Kd.R_types HO221.out BK230.out (by decide)) (fun _ hk => hk.2) (.slice Ao37 t223.length co37)) (fun _ hk => hk.2) (.slice Ao42 t226.length co42)) (fun _ h_ => h_.1))) hb); have n6_ := Aside0.mk (Kd.R_below (by (with_reducible repeat (first | apply Kd.R_alloc)); exact (Kd.R_mono (Kd.R_far (p := ⟨gb230, 1, none⟩) (Kd.R_far (p := ⟨gb230, 0, none⟩) (Kd.R_types HO225.out BK230.out (by decide)) (fun _ hk => hk.2) (.slice Ao37 t223.length co37)) (fun _ hk => hk.2) (.slice Ao42 t226.length co42)) (fun _ h_ => h_.1))) hb); have n7_ := Aside0.mk (Kd.R_below (by (with_reducible repeat (first | apply Kd.R_alloc)); exact (Kd.R_mono (Kd.R_far (p := ⟨gb230, 1, none⟩) (Kd.R_far (p := ⟨gb230, 0, none⟩) (Kd.R_types HO228.out BK230.out (by decide)) (fun _ hk => hk.2) (.slice Ao37 t223.length co37)) (fun _ hk => hk.2) (.slice Ao42 t226.length co42)) (fun _ h_ => h_.1))) hb); have n8_ := Aside0.mk (blk_below (g := gb200) (o := .cells #[.slice A0_0 l0_0.length c0_0, .slice A0_1 l0_1.length c0_1] 38 (0, 0)) (by (with_reducible repeat (refine blk_alloc ?_ _)); refine blk_far ?_ NB200_230.out _; (with_reducible repeat (refine blk_alloc ?_ _)); refine blk_far ?_ NB200_230.out _; (with_reducible repeat (refine blk_alloc ?_ _)); exact BK200.out) hb); have n9_ := Aside0.mk (blk_below (g := gb215) (o := .cells #[.slice Ao21 t208.length co21, .slice Ao24 t211.length co24] 40 (0, 0)) (by (with_reducible repeat (refine blk_alloc ?_ _)); refine blk_far ?_ NB215_230.out _; (with_reducible repeat (refine blk_alloc ?_ _)); refine blk_far ?_ NB215_230.out _; (with_reducible repeat (refine blk_alloc ?_ _)); exact BK215.out) hb); have n10_ := Aside0.mk (blk_below (g := gb222) (o := .cells #[.slice Ao28 t216.length co28, .slice Ao32 t219.length co32] 40 (0, 0)) (by (with_reducible repeat (refine blk_alloc ?_ _)); refine blk_far ?_ NB222_230.out _; (with_reducible repeat (refine blk_alloc ?_ _)); refine blk_far ?_ NB222_230.out _; (with_reducible repeat (refine blk_alloc ?_ _)); exact BK222.out) hb); have n11_ := Aside0.mk (blk_below (g := gb230) (o := .cells #[.slice Ao37 t223.length co37, .slice Ao42 t226.length co42] 40 (0, 0)) (by (with_reducible repeat (refine blk_alloc ?_ _)); refine blk_put (cs := #[.slice Ao37 t223.length co37, .slice none 0 0]) ?_ 1 _ rfl; (with_reducible repeat (refine blk_alloc ?_ _)); refine blk_put (cs := #[.slice none 0 0, .slice none 0 0]) ?_ 0 _ rfl; (with_reducible repeat (refine blk_alloc ?_ _)); exact BK230.out) hb); have n12_ := Aside0.mk (below_step (by repeat (first | (with_reducible first | exact HB.out | apply below_alloc | refine below_set ?_ GE200.out | refine below_set ?_ GE215.out | refine below_set ?_ GE222.out | refine below_set ?_ GE230.out) | exact HB.out)) hb); clear HO204; clear HO207; clear HO210; clear HO213; clear HO218; clear HO221; clear HO225; clear HO228; clear BK200; clear BK215; clear BK222; clear BK230; clear HB; have HO204 := n0_; have HO207 := n1_; have HO210 := n2_; have HO213 := n3_; have HO218 := n4_; have HO221 := n5_; have HO225 := n6_; have HO228 := n7_; have BK200 := n8_; have BK215 := n9_; have BK222 := n10_; have BK230 := n11_; have HB := n12_; clear n0_ n1_ n2_ n3_ n4_ n5_ n6_ n7_ n8_ n9_ n10_ n11_ n12_; (try clear hb); (try clear hb2); (try clear hk); (try clear hi)))
        go_meet
        case rel => exact ⟨_, ((t229 != t214)), (by first | rfl | (simp; done) | (simp [*]; done)), H', ⟨by first | omega | exact Nat.le_refl _⟩, ⟨by (with_reducible repeat (first | apply Kd.R_alloc)); exact Kd.R_mono HO210.out (fun _ hk => ⟨hk.1.1.2.2.1, ⟨hk.1.1.2.2.2.1, ⟨hk.1.1.2.2.2.2, ⟨hk.1.2, hk.2⟩⟩⟩⟩)⟩, ⟨by (with_reducible repeat (first | apply Kd.R_alloc)); exact Kd.R_mono HO213.out (fun _ hk => ⟨hk.1.1.2.2.1, ⟨hk.1.1.2.2.2.1, ⟨hk.1.1.2.2.2.2, ⟨hk.1.2, hk.2⟩⟩⟩⟩)⟩, ⟨by (with_reducible repeat (first | apply Kd.R_alloc)); exact Kd.R_mono HO218.out (fun _ hk => ⟨hk.1.1.2.2.1, ⟨hk.1.1.2.2.2.1, ⟨hk.1.1.2.2.2.2, ⟨hk.1.2, hk.2⟩⟩⟩⟩)⟩, ⟨by (with_reducible repeat (first | apply Kd.R_alloc)); exact Kd.R_mono HO221.out (fun _ hk => ⟨hk.1.1.2.2.1, ⟨hk.1.1.2.2.2.1, ⟨hk.1.1.2.2.2.2, ⟨hk.1.2, hk.2⟩⟩⟩⟩)⟩, ⟨by (with_reducible repeat (first | apply Kd.R_alloc)); exact Kd.R_mono HO225.out (fun _ hk => ⟨hk.1.1.1.2, ⟨hk.1.1.2, ⟨hk.1.2, ⟨hk.2, hk.1.1.1.1.1.1⟩⟩⟩⟩)⟩, ⟨by (with_reducible repeat (first | apply Kd.R_alloc)); exact Kd.R_mono HO228.out (fun _ hk => ⟨hk.1.1.1.2, ⟨hk.1.1.2, ⟨hk.1.2, ⟨hk.2, hk.1.1.1.1.1.1⟩⟩⟩⟩)⟩, ⟨by (with_reducible repeat (refine blk_alloc ?_ _)); exact BK200.out⟩, ⟨by (with_reducible repeat (refine blk_alloc ?_ _)); exact BK215.out⟩, ⟨by (with_reducible repeat (refine blk_alloc ?_ _)); exact BK222.out⟩, ⟨by (with_reducible repeat (refine blk_alloc ?_ _)); exact BK230.out⟩, ⟨by repeat (first | (with_reducible first | exact HB.out | apply below_alloc | refine below_set ?_ GE200.out | refine below_set ?_ GE215.out | refine below_set ?_ GE222.out | refine below_set ?_ GE230.out) | exact HB.out)⟩⟩
      · replace c44 := Bool.eq_false_iff.mpr c44
        subst c44
        have H1 : (laws_FnExactSyncDisk.j0 k t214 t229 true l0_0 l0_1 t208 t211 t216 t219 t223 t226) = some r := by rw [if_neg (show ¬ (false = true) by decide)] at H; exact H
        clear H
        have H := H1
        clear H1
        have H' := Aside0.mk H
        clear H
        have hnb53 := NB230_200.out
        have hnc53 := NB200_230.out
        have hnb54 := NB230_215.out
        have hnc54 := NB215_230.out
        have hnb55 := NB230_222.out
        have hnc55 := NB222_230.out
        have hcz56_0 : w36.cell? ⟨gb230, 0, none⟩ = some (.slice none 0 0) := (blk_cell BK230.out 0).trans rfl
        have hcz56_1 : w36.cell? ⟨gb230, 1, none⟩ = some (.slice none 0 0) := (blk_cell BK230.out 1).trans rfl
        have hfz56_0 := blk_frozen BK230.out 0
        have hfz56_1 := blk_frozen BK230.out 1
        have hnb57 := NB215_200.out
        have hnc57 := NB200_215.out
        have hnb58 := NB215_222.out
        have hnc58 := NB222_215.out
        have hcz59_0 : w36.cell? ⟨gb215, 0, none⟩ = some (.slice Ao21 t208.length co21) := (blk_cell BK215.out 0).trans rfl
        have hcz59_1 : w36.cell? ⟨gb215, 1, none⟩ = some (.slice Ao24 t211.length co24) := (blk_cell BK215.out 1).trans rfl
        have hfz59_0 := blk_frozen BK215.out 0
        have hfz59_1 := blk_frozen BK215.out 1
        go_wp2_with (first | ((with_reducible refine gate_callee (f := 28) rfl ?_); refine goesL_ (some 34) rfl rfl Try.func28 (by kernel_rfl) rfl #[.agg #[.slice Ao37 t223.length co37, .slice Ao42 t226.length co42], .agg #[.slice Ao21 t208.length co21, .slice Ao24 t211.length co24]] rfl (by (try simp only [List.map_toArray, List.map_cons, List.map_nil]); first | done | rfl | (simp only [List.length_drop, List.length_take]; rfl)) ?_; (with_reducible refine (laws_eqDisk.calls k _ _ t223 _ _ t226 _ _ t208 _ _ t211 false _ ?side1 ?side2 ?side3 ?side4 ?side5 ?side6 ?side7 ?side8 A43.out).mono ?_); (case side1 => refine (Kd.R_reads' (e := 9) (base := w.heap.size) (ok := fun k_ => ((((((some k_ ≠ (.slice Ao42 t226.length co42 : Value).ownBlock ∧ some k_ ≠ (.slice Ao17 t202.length co17 : Value).ownBlock) ∧ some k_ ≠ (.slice Ao18 t205.length co18 : Value).ownBlock) ∧ some k_ ≠ (.slice Ao21 t208.length co21 : Value).ownBlock) ∧ some k_ ≠ (.slice Ao24 t211.length co24 : Value).ownBlock) ∧ some k_ ≠ (.slice Ao28 t216.length co28 : Value).ownBlock) ∧ some k_ ≠ (.slice Ao32 t219.length co32 : Value).ownBlock)) (n := t223.length) (c := co37) ?_).2.2; exact (by (with_reducible repeat (first | apply Kd.R_alloc)); exact (Kd.R_mono (Kd.R_far (p := ⟨gb230, 1, none⟩) (Kd.R_far (p := ⟨gb230, 0, none⟩) (Kd.R_types HO225.out BK230.out (by decide)) (fun _ hk => hk.2) (.slice Ao37 t223.length co37)) (fun _ hk => hk.2) (.slice Ao42 t226.length co42)) (fun _ h_ => h_.1)))); (case side2 => exact (Kd.R_reads' HO225.out).2.1); (case side3 => refine (Kd.R_reads' (e := 9) (base := w.heap.size) (ok := fun k_ => ((((((some k_ ≠ (.slice Ao37 t223.length co37 : Value).ownBlock ∧ some k_ ≠ (.slice Ao17 t202.length co17 : Value).ownBlock) ∧ some k_ ≠ (.slice Ao18 t205.length co18 : Value).ownBlock) ∧ some k_ ≠ (.slice Ao21 t208.length co21 : Value).ownBlock) ∧ some k_ ≠ (.slice Ao24 t211.length co24 : Value).ownBlock) ∧ some k_ ≠ (.slice Ao28 t216.length co28 : Value).ownBlock) ∧ some k_ ≠ (.slice Ao32 t219.length co32 : Value).ownBlock)) (n := t226.length) (c := co42) ?_).2.2; exact (by (with_reducible repeat (first | apply Kd.R_alloc)); exact (Kd.R_mono (Kd.R_far (p := ⟨gb230, 1, none⟩) (Kd.R_far (p := ⟨gb230, 0, none⟩) (Kd.R_types HO228.out BK230.out (by decide)) (fun _ hk => hk.2) (.slice Ao37 t223.length co37)) (fun _ hk => hk.2) (.slice Ao42 t226.length co42)) (fun _ h_ => h_.1)))); (case side4 => exact (Kd.R_reads' HO228.out).2.1); (case side5 => refine (Kd.R_reads' (e := 9) (base := w.heap.size) (ok := fun k_ => (((some k_ ≠ (.slice Ao17 t202.length co17 : Value).ownBlock ∧ (some k_ ≠ (.slice Ao18 t205.length co18 : Value).ownBlock ∧ (some k_ ≠ (.slice Ao24 t211.length co24 : Value).ownBlock ∧ (some k_ ≠ (.slice Ao28 t216.length co28 : Value).ownBlock ∧ some k_ ≠ (.slice Ao32 t219.length co32 : Value).ownBlock)))) ∧ some k_ ≠ (.slice Ao37 t223.length co37 : Value).ownBlock) ∧ some k_ ≠ (.slice Ao42 t226.length co42 : Value).ownBlock)) (n := t208.length) (c := co21) ?_).2.2; exact (by (with_reducible repeat (first | apply Kd.R_alloc)); exact (Kd.R_mono (Kd.R_far (p := ⟨gb230, 1, none⟩) (Kd.R_far (p := ⟨gb230, 0, none⟩) (Kd.R_types HO210.out BK230.out (by decide)) (fun _ hk => hk.2) (.slice Ao37 t223.length co37)) (fun _ hk => hk.2) (.slice Ao42 t226.length co42)) (fun _ h_ => h_.1)))); (case side6 => exact (Kd.R_reads' HO210.out).2.1); (case side7 => refine (Kd.R_reads' (e := 9) (base := w.heap.size) (ok := fun k_ => (((some k_ ≠ (.slice Ao17 t202.length co17 : Value).ownBlock ∧ (some k_ ≠ (.slice Ao18 t205.length co18 : Value).ownBlock ∧ (some k_ ≠ (.slice Ao21 t208.length co21 : Value).ownBlock ∧ (some k_ ≠ (.slice Ao28 t216.length co28 : Value).ownBlock ∧ some k_ ≠ (.slice Ao32 t219.length co32 : Value).ownBlock)))) ∧ some k_ ≠ (.slice Ao37 t223.length co37 : Value).ownBlock) ∧ some k_ ≠ (.slice Ao42 t226.length co42 : Value).ownBlock)) (n := t211.length) (c := co24) ?_).2.2; exact (by (with_reducible repeat (first | apply Kd.R_alloc)); exact (Kd.R_mono (Kd.R_far (p := ⟨gb230, 1, none⟩) (Kd.R_far (p := ⟨gb230, 0, none⟩) (Kd.R_types HO213.out BK230.out (by decide)) (fun _ hk => hk.2) (.slice Ao37 t223.length co37)) (fun _ hk => hk.2) (.slice Ao42 t226.length co42)) (fun _ h_ => h_.1)))); (case side8 => exact (Kd.R_reads' HO213.out).2.1); rintro e w60 ⟨rfl, hb⟩; refine ⟨_, rfl, ?_⟩; have n0_ := Aside0.mk (Kd.R_below (by (with_reducible repeat (first | apply Kd.R_alloc)); exact (Kd.R_mono (Kd.R_far (p := ⟨gb230, 1, none⟩) (Kd.R_far (p := ⟨gb230, 0, none⟩) (Kd.R_types HO204.out BK230.out (by decide)) (fun _ hk => hk.2) (.slice Ao37 t223.length co37)) (fun _ hk => hk.2) (.slice Ao42 t226.length co42)) (fun _ h_ => h_.1))) hb); have n1_ := Aside0.mk (Kd.R_below (by (with_reducible repeat (first | apply Kd.R_alloc)); exact (Kd.R_mono (Kd.R_far (p := ⟨gb230, 1, none⟩) (Kd.R_far (p := ⟨gb230, 0, none⟩) (Kd.R_types HO207.out BK230.out (by decide)) (fun _ hk => hk.2) (.slice Ao37 t223.length co37)) (fun _ hk => hk.2) (.slice Ao42 t226.length co42)) (fun _ h_ => h_.1))) hb); have n2_ := Aside0.mk (Kd.R_below (by (with_reducible repeat (first | apply Kd.R_alloc)); exact (Kd.R_mono (Kd.R_far (p := ⟨gb230, 1, none⟩) (Kd.R_far (p := ⟨gb230, 0, none⟩) (Kd.R_types HO210.out BK230.out (by decide)) (fun _ hk => hk.2) (.slice Ao37 t223.length co37)) (fun _ hk => hk.2) (.slice Ao42 t226.length co42)) (fun _ h_ => h_.1))) hb); have n3_ := Aside0.mk (Kd.R_below (by (with_reducible repeat (first | apply Kd.R_alloc)); exact (Kd.R_mono (Kd.R_far (p := ⟨gb230, 1, none⟩) (Kd.R_far (p := ⟨gb230, 0, none⟩) (Kd.R_types HO213.out BK230.out (by decide)) (fun _ hk => hk.2) (.slice Ao37 t223.length co37)) (fun _ hk => hk.2) (.slice Ao42 t226.length co42)) (fun _ h_ => h_.1))) hb); have n4_ := Aside0.mk (Kd.R_below (by (with_reducible repeat (first | apply Kd.R_alloc)); exact (Kd.R_mono (Kd.R_far (p := ⟨gb230, 1, none⟩) (Kd.R_far (p := ⟨gb230, 0, none⟩) (Kd.R_types HO218.out BK230.out (by decide)) (fun _ hk => hk.2) (.slice Ao37 t223.length co37)) (fun _ hk => hk.2) (.slice Ao42 t226.length co42)) (fun _ h_ => h_.1))) hb); have n5_ := Aside0.mk (Kd.R_below (by (with_reducible repeat (first | apply Kd.R_alloc)); exact (Kd.R_mono (Kd.R_far (p := ⟨gb230, 1, none⟩) (Kd.R_far (p := ⟨gb230, 0, none⟩) (Kd.R_types HO221.out BK230.out (by decide)) (fun _ hk => hk.2) (.slice Ao37 t223.length co37)) (fun _ hk => hk.2) (.slice Ao42 t226.length co42)) (fun _ h_ => h_.1))) hb); have n6_ := Aside0.mk (Kd.R_below (by (with_reducible repeat (first | apply Kd.R_alloc)); exact (Kd.R_mono (Kd.R_far (p := ⟨gb230, 1, none⟩) (Kd.R_far (p := ⟨gb230, 0, none⟩) (Kd.R_types HO225.out BK230.out (by decide)) (fun _ hk => hk.2) (.slice Ao37 t223.length co37)) (fun _ hk => hk.2) (.slice Ao42 t226.length co42)) (fun _ h_ => h_.1))) hb); have n7_ := Aside0.mk (Kd.R_below (by (with_reducible repeat (first | apply Kd.R_alloc)); exact (Kd.R_mono (Kd.R_far (p := ⟨gb230, 1, none⟩) (Kd.R_far (p := ⟨gb230, 0, none⟩) (Kd.R_types HO228.out BK230.out (by decide)) (fun _ hk => hk.2) (.slice Ao37 t223.length co37)) (fun _ hk => hk.2) (.slice Ao42 t226.length co42)) (fun _ h_ => h_.1))) hb); have n8_ := Aside0.mk (blk_below (g := gb200) (o := .cells #[.slice A0_0 l0_0.length c0_0, .slice A0_1 l0_1.length c0_1] 38 (0, 0)) (by (with_reducible repeat (refine blk_alloc ?_ _)); refine blk_far ?_ NB200_230.out _; (with_reducible repeat (refine blk_alloc ?_ _)); refine blk_far ?_ NB200_230.out _; (with_reducible repeat (refine blk_alloc ?_ _)); exact BK200.out) hb); have n9_ := Aside0.mk (blk_below (g := gb215) (o := .cells #[.slice Ao21 t208.length co21, .slice Ao24 t211.length co24] 40 (0, 0)) (by (with_reducible repeat (refine blk_alloc ?_ _)); refine blk_far ?_ NB215_230.out _; (with_reducible repeat (refine blk_alloc ?_ _)); refine blk_far ?_ NB215_230.out _; (with_reducible repeat (refine blk_alloc ?_ _)); exact BK215.out) hb); have n10_ := Aside0.mk (blk_below (g := gb222) (o := .cells #[.slice Ao28 t216.length co28, .slice Ao32 t219.length co32] 40 (0, 0)) (by (with_reducible repeat (refine blk_alloc ?_ _)); refine blk_far ?_ NB222_230.out _; (with_reducible repeat (refine blk_alloc ?_ _)); refine blk_far ?_ NB222_230.out _; (with_reducible repeat (refine blk_alloc ?_ _)); exact BK222.out) hb); have n11_ := Aside0.mk (blk_below (g := gb230) (o := .cells #[.slice Ao37 t223.length co37, .slice Ao42 t226.length co42] 40 (0, 0)) (by (with_reducible repeat (refine blk_alloc ?_ _)); refine blk_put (cs := #[.slice Ao37 t223.length co37, .slice none 0 0]) ?_ 1 _ rfl; (with_reducible repeat (refine blk_alloc ?_ _)); refine blk_put (cs := #[.slice none 0 0, .slice none 0 0]) ?_ 0 _ rfl; (with_reducible repeat (refine blk_alloc ?_ _)); exact BK230.out) hb); have n12_ := Aside0.mk (below_step (by repeat (first | (with_reducible first | exact HB.out | apply below_alloc | refine below_set ?_ GE200.out | refine below_set ?_ GE215.out | refine below_set ?_ GE222.out | refine below_set ?_ GE230.out) | exact HB.out)) hb); clear HO204; clear HO207; clear HO210; clear HO213; clear HO218; clear HO221; clear HO225; clear HO228; clear BK200; clear BK215; clear BK222; clear BK230; clear HB; have HO204 := n0_; have HO207 := n1_; have HO210 := n2_; have HO213 := n3_; have HO218 := n4_; have HO221 := n5_; have HO225 := n6_; have HO228 := n7_; have BK200 := n8_; have BK215 := n9_; have BK222 := n10_; have BK230 := n11_; have HB := n12_; clear n0_ n1_ n2_ n3_ n4_ n5_ n6_ n7_ n8_ n9_ n10_ n11_ n12_; (try clear hb); (try clear hb2); (try clear hk); (try clear hi)))
        go_meet
        case rel => exact ⟨_, (true), (by first | rfl | (simp; done) | (simp [*]; done)), H', ⟨by first | omega | exact Nat.le_refl _⟩, ⟨by (with_reducible repeat (first | apply Kd.R_alloc)); exact Kd.R_mono HO210.out (fun _ hk => ⟨hk.1.1.2.2.1, ⟨hk.1.1.2.2.2.1, ⟨hk.1.1.2.2.2.2, ⟨hk.1.2, hk.2⟩⟩⟩⟩)⟩, ⟨by (with_reducible repeat (first | apply Kd.R_alloc)); exact Kd.R_mono HO213.out (fun _ hk => ⟨hk.1.1.2.2.1, ⟨hk.1.1.2.2.2.1, ⟨hk.1.1.2.2.2.2, ⟨hk.1.2, hk.2⟩⟩⟩⟩)⟩, ⟨by (with_reducible repeat (first | apply Kd.R_alloc)); exact Kd.R_mono HO218.out (fun _ hk => ⟨hk.1.1.2.2.1, ⟨hk.1.1.2.2.2.1, ⟨hk.1.1.2.2.2.2, ⟨hk.1.2, hk.2⟩⟩⟩⟩)⟩, ⟨by (with_reducible repeat (first | apply Kd.R_alloc)); exact Kd.R_mono HO221.out (fun _ hk => ⟨hk.1.1.2.2.1, ⟨hk.1.1.2.2.2.1, ⟨hk.1.1.2.2.2.2, ⟨hk.1.2, hk.2⟩⟩⟩⟩)⟩, ⟨by (with_reducible repeat (first | apply Kd.R_alloc)); exact Kd.R_mono HO225.out (fun _ hk => ⟨hk.1.1.1.2, ⟨hk.1.1.2, ⟨hk.1.2, ⟨hk.2, hk.1.1.1.1.1.1⟩⟩⟩⟩)⟩, ⟨by (with_reducible repeat (first | apply Kd.R_alloc)); exact Kd.R_mono HO228.out (fun _ hk => ⟨hk.1.1.1.2, ⟨hk.1.1.2, ⟨hk.1.2, ⟨hk.2, hk.1.1.1.1.1.1⟩⟩⟩⟩)⟩, ⟨by (with_reducible repeat (refine blk_alloc ?_ _)); exact BK200.out⟩, ⟨by (with_reducible repeat (refine blk_alloc ?_ _)); exact BK215.out⟩, ⟨by (with_reducible repeat (refine blk_alloc ?_ _)); exact BK222.out⟩, ⟨by (with_reducible repeat (refine blk_alloc ?_ _)); exact BK230.out⟩, ⟨by repeat (first | (with_reducible first | exact HB.out | apply below_alloc | refine below_set ?_ GE200.out | refine below_set ?_ GE215.out | refine below_set ?_ GE222.out | refine below_set ?_ GE230.out) | exact HB.out)⟩⟩
    case rest =>
      clear HC11
      try clear c2
      try clear p2
      try clear c3
      try clear c3b0
      try clear c4
      try clear c5
      try clear c22
      try clear c24
      try clear c25
      try clear c26
      try clear c27
      try clear c28
      try clear c29
      try clear c30
      try clear c38
      try clear c39
      try clear c40
      try clear c44
      try clear c45
      try clear c46
      try clear c47
      try clear c49
      try clear c50
      try clear c53
      try clear c54
      try clear c55
      try clear c57
      try clear c58
      try clear hcz13_0
      try clear hcz13_1
      try clear hcz15_0
      try clear hcz15_1
      try clear hcz23_0
      try clear hcz23_1
      try clear hcz25_0
      try clear hcz25_1
      try clear hcz31_0
      try clear hcz31_1
      try clear hcz34_0
      try clear hcz34_1
      try clear hcz41_0
      try clear hcz41_1
      try clear hcz48_0
      try clear hcz48_1
      try clear hcz51_0
      try clear hcz51_1
      try clear hcz56_0
      try clear hcz56_1
      try clear hcz59_0
      try clear hcz59_1
      try clear hcz5_0
      try clear hcz5_1
      try clear hfz13_0
      try clear hfz13_1
      try clear hfz15_0
      try clear hfz15_1
      try clear hfz23_0
      try clear hfz23_1
      try clear hfz25_0
      try clear hfz25_1
      try clear hfz31_0
      try clear hfz31_1
      try clear hfz34_0
      try clear hfz34_1
      try clear hfz41_0
      try clear hfz41_1
      try clear hfz48_0
      try clear hfz48_1
      try clear hfz51_0
      try clear hfz51_1
      try clear hfz56_0
      try clear hfz56_1
      try clear hfz59_0
      try clear hfz59_1
      try clear hfz5_0
      try clear hfz5_1
      obtain ⟨kq, x40_10, rfl, HA, HJ10, HO_216000, HO_216001, HO_223000, HO_223001, HO_231000, HO_231001, BK200, BK215, BK222, BK230, HB⟩ := hcut
      cases kq with
      | zero => exact absurd HA.out (by simp [laws_FnExactSyncDisk.j0])
      | succ kj10 =>
        have H := HA.out
        clear HA
        simp only [laws_FnExactSyncDisk.j0] at H
        by_cases c61 : x40_10 = true
        · subst c61
          have H1 : (some false) = some r := by rw [if_pos rfl] at H; exact H
          clear H
          have H := H1
          clear H1
          obtain rfl := Option.some.inj H
          go_wp2
          go_ret
          exact ⟨by first | rfl | (simp [errW_none, errW_some] <;> rfl) | (simp [*, errW_none, errW_some] <;> rfl), by repeat (first | (with_reducible first | exact HB.out | apply below_alloc | refine below_set ?_ GE200.out | refine below_set ?_ GE215.out | refine below_set ?_ GE222.out | refine below_set ?_ GE230.out) | exact HB.out)⟩
        · replace c61 := Bool.eq_false_iff.mpr c61
          subst c61
          have H1 : ((laws_toDisk.f kj10 l0_0 l0_1).bind fun bt232 => ((laws_eqDisk.f kj10 t216 t219 bt232.1 bt232.2).bind fun t238 => (if t238 = true then ((laws_markDisk.f kj10 t216 t219 1).bind fun bt239 => (if bt239.1 < 0 then (laws_FnExactSyncDisk.j1 kj10 t214 true l0_0 l0_1 t208 t211 t223 t226) else ((laws_eqDisk.f kj10 t223 t226 t208 t211).bind fun t242 => (if t242 = true then (laws_FnExactSyncDisk.j1 kj10 t214 (t229 != t214) l0_0 l0_1 t208 t211 t223 t226) else (laws_FnExactSyncDisk.j1 kj10 t214 true l0_0 l0_1 t208 t211 t223 t226))))) else (some false)))) = some r := by rw [if_neg (show ¬ (false = true) by decide)] at H; exact H
          clear H
          have H := H1
          clear H1
          replace H := Option.bind_eq_some_iff.mp H
          obtain ⟨⟨t232, t235⟩, A620, H⟩ := H
          replace H : ((laws_eqDisk.f kj10 t216 t219 t232 t235).bind fun t238 => (if t238 = true then ((laws_markDisk.f kj10 t216 t219 1).bind fun bt239 => (if bt239.1 < 0 then (laws_FnExactSyncDisk.j1 kj10 t214 true l0_0 l0_1 t208 t211 t223 t226) else ((laws_eqDisk.f kj10 t223 t226 t208 t211).bind fun t242 => (if t242 = true then (laws_FnExactSyncDisk.j1 kj10 t214 (t229 != t214) l0_0 l0_1 t208 t211 t223 t226) else (laws_FnExactSyncDisk.j1 kj10 t214 true l0_0 l0_1 t208 t211 t223 t226))))) else (some false))) = some r := H
          have A62 := Aside0.mk A620
          clear A620
          replace H := Option.bind_eq_some_iff.mp H
          obtain ⟨t238, A630, H⟩ := H
          replace H : (if t238 = true then ((laws_markDisk.f kj10 t216 t219 1).bind fun bt239 => (if bt239.1 < 0 then (laws_FnExactSyncDisk.j1 kj10 t214 true l0_0 l0_1 t208 t211 t223 t226) else ((laws_eqDisk.f kj10 t223 t226 t208 t211).bind fun t242 => (if t242 = true then (laws_FnExactSyncDisk.j1 kj10 t214 (t229 != t214) l0_0 l0_1 t208 t211 t223 t226) else (laws_FnExactSyncDisk.j1 kj10 t214 true l0_0 l0_1 t208 t211 t223 t226))))) else (some false)) = some r := H
          have A63 := Aside0.mk A630
          clear A630
          by_cases c64 : t238 = true
          · subst c64
            have H1 : ((laws_markDisk.f kj10 t216 t219 1).bind fun bt239 => (if bt239.1 < 0 then (laws_FnExactSyncDisk.j1 kj10 t214 true l0_0 l0_1 t208 t211 t223 t226) else ((laws_eqDisk.f kj10 t223 t226 t208 t211).bind fun t242 => (if t242 = true then (laws_FnExactSyncDisk.j1 kj10 t214 (t229 != t214) l0_0 l0_1 t208 t211 t223 t226) else (laws_FnExactSyncDisk.j1 kj10 t214 true l0_0 l0_1 t208 t211 t223 t226))))) = some r := by rw [if_pos rfl] at H; exact H
            clear H
            have H := H1
            clear H1
            replace H := Option.bind_eq_some_iff.mp H
            obtain ⟨⟨t239, t240, t241⟩, A650, H⟩ := H
            replace H : (if t239 < 0 then (laws_FnExactSyncDisk.j1 kj10 t214 true l0_0 l0_1 t208 t211 t223 t226) else ((laws_eqDisk.f kj10 t223 t226 t208 t211).bind fun t242 => (if t242 = true then (laws_FnExactSyncDisk.j1 kj10 t214 (t229 != t214) l0_0 l0_1 t208 t211 t223 t226) else (laws_FnExactSyncDisk.j1 kj10 t214 true l0_0 l0_1 t208 t211 t223 t226)))) = some r := H
            have A65 := Aside0.mk A650
            clear A650
            have HC66 := Aside0.mk H
            clear H
            try go_wp2
            have n0_ := Aside0.mk (Kd.R_drew HO_216000.out)
            have n1_ := Aside0.mk (Kd.R_drew HO_216001.out)
            have n2_ := Aside0.mk (Kd.R_drew HO_223000.out)
            have n3_ := Aside0.mk (Kd.R_drew HO_223001.out)
            have n4_ := Aside0.mk (Kd.R_drew HO_231000.out)
            have n5_ := Aside0.mk (Kd.R_drew HO_231001.out)
            have n6_ := Aside0.mk (blk_drew BK200.out)
            have n7_ := Aside0.mk (blk_drew BK215.out)
            have n8_ := Aside0.mk (blk_drew BK222.out)
            have n9_ := Aside0.mk (blk_drew BK230.out)
            have n10_ := Aside0.mk (below_drew1 HB.out)
            clear HO_216000
            clear HO_216001
            clear HO_223000
            clear HO_223001
            clear HO_231000
            clear HO_231001
            clear BK200
            clear BK215
            clear BK222
            clear BK230
            clear HB
            have HO_216000 := n0_
            have HO_216001 := n1_
            have HO_223000 := n2_
            have HO_223001 := n3_
            have HO_231000 := n4_
            have HO_231001 := n5_
            have BK200 := n6_
            have BK215 := n7_
            have BK222 := n8_
            have BK230 := n9_
            have HB := n10_
            clear n0_ n1_ n2_ n3_ n4_ n5_ n6_ n7_ n8_ n9_ n10_
            refine start_ (n := 5) (S := fun w' => w'.cell? ⟨gb222, 0, none⟩ = some (.slice Ao28 t216.length co28) ∧ w'.cell? ⟨gb222, 1, none⟩ = some (.slice Ao32 t219.length co32) ∧ w'.cell? ⟨gb200, 0, none⟩ = some (.slice A0_0 l0_0.length c0_0) ∧ w'.cell? ⟨gb200, 1, none⟩ = some (.slice A0_1 l0_1.length c0_1)) (ds := []) #[false, false, false, false, false] (by kernel_rfl) rfl rfl ⟨(blk_cell BK222.out 0).trans rfl, (blk_cell BK222.out 1).trans rfl, (blk_cell BK200.out 0).trans rfl, (blk_cell BK200.out 1).trans rfl⟩ (fun hHeld => ?_)
            generalize wc.drew = w67 at HO_216000 HO_216001 HO_223000 HO_223001 HO_231000 HO_231001 BK200 BK215 BK222 BK230 HB hHeld ⊢
            refine take_ (i := 0) (N := some 41) (v := ?_) (a' := ?_) #[true, false, false, false, false] rfl rfl (by kernel_rfl) (fun _ _ _ h => h) (Or.inl ⟨by rfl, ?_⟩) hHeld ?_ ?_
            rotate_left
            · rintro w' ⟨s0, s1, s2, s3⟩
              go_simp
              with_reducible rfl
            rotate_left
            · simp only [Act.put, List.setIfInBounds_toArray, List.set_cons_zero, List.set_cons_succ, i64_w, i32_w]
              rfl
            refine take_ (i := 1) (N := some 42) (v := ?_) (a' := ?_) #[true, true, false, false, false] rfl rfl (by kernel_rfl) (fun _ _ _ h => h) (Or.inl ⟨by rfl, ?_⟩) hHeld ?_ ?_
            rotate_left
            · rintro w' ⟨s0, s1, s2, s3⟩
              go_simp
              with_reducible rfl
            rotate_left
            · simp only [Act.put, List.setIfInBounds_toArray, List.set_cons_zero, List.set_cons_succ, i64_w, i32_w]
              rfl
            refine one_ (i := 2) (N := some 43) #[true, true, true, false, false] rfl rfl (by kernel_rfl) (by decide) (fun K hK => ?_)
            refine goes_ Try.func26 (by kernel_rfl) rfl #[.agg #[.slice A0_0 l0_0.length c0_0, .slice A0_1 l0_1.length c0_1]] (by rfl) rfl rfl (by (try simp only [List.map_toArray, List.map_cons, List.map_nil]); first | done | rfl | (simp only [List.length_drop, List.length_take]; rfl)) ?_
            with_reducible refine (laws_toDisk.calls kj10 _ _ l0_0 _ _ l0_1 t232 t235 _ ?side1 ?side2 ?side3 ?side4 A62.out).mono ?_
            (case side1 => repeat (first | exact (Kd.C_below HR0_0.out HB.out) | (with_reducible refine Kd.C_alloc ?_ _)))
            (case side2 => exact HC0_0.out)
            (case side3 => repeat (first | exact (Kd.C_below HR0_1.out HB.out) | (with_reducible refine Kd.C_alloc ?_ _)))
            (case side4 => exact HC0_1.out)
            rintro e w68 ⟨v233, v236, rfl, ho0, ho1, hb⟩
            refine ⟨_, rfl, ?_⟩
            have n0_ := Aside0.mk (Kd.R_mono (Kd.R_told (Kd.R_told (Kd.R_old (by (with_reducible repeat (first | apply Kd.R_alloc)); exact HO_216000.out) hb) (Kd.R_base ho0)) (Kd.R_base ho1)) (fun _ h_ => h_.1))
            have n1_ := Aside0.mk (Kd.R_mono (Kd.R_told (Kd.R_told (Kd.R_old (by (with_reducible repeat (first | apply Kd.R_alloc)); exact HO_216001.out) hb) (Kd.R_base ho0)) (Kd.R_base ho1)) (fun _ h_ => h_.1))
            have n2_ := Aside0.mk (Kd.R_mono (Kd.R_told (Kd.R_told (Kd.R_old (by (with_reducible repeat (first | apply Kd.R_alloc)); exact HO_223000.out) hb) (Kd.R_base ho0)) (Kd.R_base ho1)) (fun _ h_ => h_.1))
            have n3_ := Aside0.mk (Kd.R_mono (Kd.R_told (Kd.R_told (Kd.R_old (by (with_reducible repeat (first | apply Kd.R_alloc)); exact HO_223001.out) hb) (Kd.R_base ho0)) (Kd.R_base ho1)) (fun _ h_ => h_.1))
            have n4_ := Aside0.mk (Kd.R_mono (Kd.R_told (Kd.R_told (Kd.R_old (by (with_reducible repeat (first | apply Kd.R_alloc)); exact HO_231000.out) hb) (Kd.R_base ho0)) (Kd.R_base ho1)) (fun _ h_ => h_.1))
            have n5_ := Aside0.mk (Kd.R_mono (Kd.R_told (Kd.R_told (Kd.R_old (by (with_reducible repeat (first | apply Kd.R_alloc)); exact HO_231001.out) hb) (Kd.R_base ho0)) (Kd.R_base ho1)) (fun _ h_ => h_.1))
            have n6_ := Aside0.mk (Kd.R_lower (Kd.R_new' (Kd.R_new' (Kd.R_new' (Kd.R_new' (Kd.R_new' (Kd.R_new' ho0 (Kd.R_lt (by (with_reducible repeat (first | apply Kd.R_alloc)); exact HO_216000.out))) (Kd.R_lt (by (with_reducible repeat (first | apply Kd.R_alloc)); exact HO_216001.out))) (Kd.R_lt (by (with_reducible repeat (first | apply Kd.R_alloc)); exact HO_223000.out))) (Kd.R_lt (by (with_reducible repeat (first | apply Kd.R_alloc)); exact HO_223001.out))) (Kd.R_lt (by (with_reducible repeat (first | apply Kd.R_alloc)); exact HO_231000.out))) (Kd.R_lt (by (with_reducible repeat (first | apply Kd.R_alloc)); exact HO_231001.out))) (below_size (by repeat (first | (with_reducible first | exact HB.out | apply below_alloc | refine below_set ?_ GE200.out | refine below_set ?_ GE215.out | refine below_set ?_ GE222.out | refine below_set ?_ GE230.out) | exact HB.out))))
            have n7_ := Aside0.mk (Kd.R_lower (Kd.R_new' (Kd.R_new' (Kd.R_new' (Kd.R_new' (Kd.R_new' (Kd.R_new' ho1 (Kd.R_lt (by (with_reducible repeat (first | apply Kd.R_alloc)); exact HO_216000.out))) (Kd.R_lt (by (with_reducible repeat (first | apply Kd.R_alloc)); exact HO_216001.out))) (Kd.R_lt (by (with_reducible repeat (first | apply Kd.R_alloc)); exact HO_223000.out))) (Kd.R_lt (by (with_reducible repeat (first | apply Kd.R_alloc)); exact HO_223001.out))) (Kd.R_lt (by (with_reducible repeat (first | apply Kd.R_alloc)); exact HO_231000.out))) (Kd.R_lt (by (with_reducible repeat (first | apply Kd.R_alloc)); exact HO_231001.out))) (below_size (by repeat (first | (with_reducible first | exact HB.out | apply below_alloc | refine below_set ?_ GE200.out | refine below_set ?_ GE215.out | refine below_set ?_ GE222.out | refine below_set ?_ GE230.out) | exact HB.out))))
            have n8_ := Aside0.mk (blk_below (g := gb200) (o := .cells #[.slice A0_0 l0_0.length c0_0, .slice A0_1 l0_1.length c0_1] 38 (0, 0)) (by (with_reducible repeat (refine blk_alloc ?_ _)); exact BK200.out) hb)
            have n9_ := Aside0.mk (blk_below (g := gb215) (o := .cells #[.slice Ao21 t208.length co21, .slice Ao24 t211.length co24] 40 (0, 0)) (by (with_reducible repeat (refine blk_alloc ?_ _)); exact BK215.out) hb)
            have n10_ := Aside0.mk (blk_below (g := gb222) (o := .cells #[.slice Ao28 t216.length co28, .slice Ao32 t219.length co32] 40 (0, 0)) (by (with_reducible repeat (refine blk_alloc ?_ _)); exact BK222.out) hb)
            have n11_ := Aside0.mk (blk_below (g := gb230) (o := .cells #[.slice Ao37 t223.length co37, .slice Ao42 t226.length co42] 40 (0, 0)) (by (with_reducible repeat (refine blk_alloc ?_ _)); exact BK230.out) hb)
            have n12_ := Aside0.mk (below_step (by repeat (first | (with_reducible first | exact HB.out | apply below_alloc | refine below_set ?_ GE200.out | refine below_set ?_ GE215.out | refine below_set ?_ GE222.out | refine below_set ?_ GE230.out) | exact HB.out)) hb)
            clear HO_216000
            clear HO_216001
            clear HO_223000
            clear HO_223001
            clear HO_231000
            clear HO_231001
            clear BK200
            clear BK215
            clear BK222
            clear BK230
            clear HB
            have HO_216000 := n0_
            have HO_216001 := n1_
            have HO_223000 := n2_
            have HO_223001 := n3_
            have HO_231000 := n4_
            have HO_231001 := n5_
            have HO234 := n6_
            have HO237 := n7_
            have BK200 := n8_
            have BK215 := n9_
            have BK222 := n10_
            have BK230 := n11_
            have HB := n12_
            clear n0_ n1_ n2_ n3_ n4_ n5_ n6_ n7_ n8_ n9_ n10_ n11_ n12_
            (try clear hb)
            (try clear hb2)
            (try clear hk)
            (try clear hi)
            (try clear ho0)
            (try clear ho1)
            obtain ⟨Ao69, co69, eo69⟩ := Kd.R_slice HO234.out
            (first | subst eo69 | (injection eo69 with f1_ f2_ f3_; have f4_ := f1_.symm; have f5_ := f3_.symm; clear f1_ f2_ f3_; subst f4_; subst f5_))
            obtain ⟨Ao70, co70, eo70⟩ := Kd.R_slice HO237.out
            (first | subst eo70 | (injection eo70 with f1_ f2_ f3_; have f4_ := f1_.symm; have f5_ := f3_.symm; clear f1_ f2_ f3_; subst f4_; subst f5_))
            refine hK.out _ _ ⟨(blk_cell BK222.out 0).trans rfl, (blk_cell BK222.out 1).trans rfl, (blk_cell BK200.out 0).trans rfl, (blk_cell BK200.out 1).trans rfl⟩ (fun hHeld => ?_)
            clear hK K
            refine norm_ (a' := ?_) ?_ ?_
            rotate_left
            · show Act.put _ (some 43) _ = _
              simp only [Act.put, List.setIfInBounds_toArray, List.set_cons_zero, List.set_cons_succ, i64_w, i32_w]
              rfl
            refine one_ (i := 3) (N := some 44) #[true, true, true, true, false] rfl rfl (by kernel_rfl) (by decide) (fun K hK => ?_)
            refine goes_ Try.func28 (by kernel_rfl) rfl #[.agg #[.slice Ao28 t216.length co28, .slice Ao32 t219.length co32], .agg #[.slice Ao69 t232.length co69, .slice Ao70 t235.length co70]] (by rfl) rfl rfl (by (try simp only [List.map_toArray, List.map_cons, List.map_nil]); first | done | rfl | (simp only [List.length_drop, List.length_take]; rfl)) ?_
            with_reducible refine (laws_eqDisk.calls kj10 _ _ t216 _ _ t219 _ _ t232 _ _ t235 true _ ?side1 ?side2 ?side3 ?side4 ?side5 ?side6 ?side7 ?side8 A63.out).mono ?_
            (case side1 => repeat (first | exact (Kd.R_reads' HO_223000.out).2.2 | (with_reducible refine Kd.C_alloc ?_ _)))
            (case side2 => exact (Kd.R_reads' HO_223000.out).2.1)
            (case side3 => repeat (first | exact (Kd.R_reads' HO_223001.out).2.2 | (with_reducible refine Kd.C_alloc ?_ _)))
            (case side4 => exact (Kd.R_reads' HO_223001.out).2.1)
            (case side5 => repeat (first | exact (Kd.R_reads' HO234.out).2.2 | (with_reducible refine Kd.C_alloc ?_ _)))
            (case side6 => exact (Kd.R_reads' HO234.out).2.1)
            (case side7 => repeat (first | exact (Kd.R_reads' HO237.out).2.2 | (with_reducible refine Kd.C_alloc ?_ _)))
            (case side8 => exact (Kd.R_reads' HO237.out).2.1)
            rintro e w71 ⟨rfl, hb⟩
            refine ⟨_, rfl, ?_⟩
            have n0_ := Aside0.mk (Kd.R_below (by (with_reducible repeat (first | apply Kd.R_alloc)); exact HO_216000.out) hb)
            have n1_ := Aside0.mk (Kd.R_below (by (with_reducible repeat (first | apply Kd.R_alloc)); exact HO_216001.out) hb)
            have n2_ := Aside0.mk (Kd.R_below (by (with_reducible repeat (first | apply Kd.R_alloc)); exact HO_223000.out) hb)
            have n3_ := Aside0.mk (Kd.R_below (by (with_reducible repeat (first | apply Kd.R_alloc)); exact HO_223001.out) hb)
            have n4_ := Aside0.mk (Kd.R_below (by (with_reducible repeat (first | apply Kd.R_alloc)); exact HO_231000.out) hb)
            have n5_ := Aside0.mk (Kd.R_below (by (with_reducible repeat (first | apply Kd.R_alloc)); exact HO_231001.out) hb)
            have n6_ := Aside0.mk (Kd.R_below (by (with_reducible repeat (first | apply Kd.R_alloc)); exact HO234.out) hb)
            have n7_ := Aside0.mk (Kd.R_below (by (with_reducible repeat (first | apply Kd.R_alloc)); exact HO237.out) hb)
            have n8_ := Aside0.mk (blk_below (g := gb200) (o := .cells #[.slice A0_0 l0_0.length c0_0, .slice A0_1 l0_1.length c0_1] 38 (0, 0)) (by (with_reducible repeat (refine blk_alloc ?_ _)); exact BK200.out) hb)
            have n9_ := Aside0.mk (blk_below (g := gb215) (o := .cells #[.slice Ao21 t208.length co21, .slice Ao24 t211.length co24] 40 (0, 0)) (by (with_reducible repeat (refine blk_alloc ?_ _)); exact BK215.out) hb)
            have n10_ := Aside0.mk (blk_below (g := gb222) (o := .cells #[.slice Ao28 t216.length co28, .slice Ao32 t219.length co32] 40 (0, 0)) (by (with_reducible repeat (refine blk_alloc ?_ _)); exact BK222.out) hb)
            have n11_ := Aside0.mk (blk_below (g := gb230) (o := .cells #[.slice Ao37 t223.length co37, .slice Ao42 t226.length co42] 40 (0, 0)) (by (with_reducible repeat (refine blk_alloc ?_ _)); exact BK230.out) hb)
            have n12_ := Aside0.mk (below_step (by repeat (first | (with_reducible first | exact HB.out | apply below_alloc | refine below_set ?_ GE200.out | refine below_set ?_ GE215.out | refine below_set ?_ GE222.out | refine below_set ?_ GE230.out) | exact HB.out)) hb)
            clear HO_216000
            clear HO_216001
            clear HO_223000
            clear HO_223001
            clear HO_231000
            clear HO_231001
            clear HO234
            clear HO237
            clear BK200
            clear BK215
            clear BK222
            clear BK230
            clear HB
            have HO_216000 := n0_
            have HO_216001 := n1_
            have HO_223000 := n2_
            have HO_223001 := n3_
            have HO_231000 := n4_
            have HO_231001 := n5_
            have HO234 := n6_
            have HO237 := n7_
            have BK200 := n8_
            have BK215 := n9_
            have BK222 := n10_
            have BK230 := n11_
            have HB := n12_
            clear n0_ n1_ n2_ n3_ n4_ n5_ n6_ n7_ n8_ n9_ n10_ n11_ n12_
            (try clear hb)
            (try clear hb2)
            (try clear hk)
            (try clear hi)
            refine hK.out _ _ ⟨(blk_cell BK222.out 0).trans rfl, (blk_cell BK222.out 1).trans rfl, (blk_cell BK200.out 0).trans rfl, (blk_cell BK200.out 1).trans rfl⟩ (fun hHeld => ?_)
            clear hK K
            refine norm_ (a' := ?_) ?_ ?_
            rotate_left
            · show Act.put _ (some 44) _ = _
              simp only [Act.put, List.setIfInBounds_toArray, List.set_cons_zero, List.set_cons_succ, i64_w, i32_w]
              rfl
            refine pure_ (i := 4) (N := some 45) (v := ?_) (a' := ?_) #[true, true, true, true, true] rfl rfl (by kernel_rfl) (fun _ _ _ h => h) (Or.inl ⟨by rfl, ?_⟩) ?_ ?_
            rotate_left
            · intro w'
              go_simp
              with_reducible rfl
            rotate_left
            · simp only [Act.put, List.setIfInBounds_toArray, List.set_cons_zero, List.set_cons_succ, i64_w, i32_w]
              rfl
            refine done_ (by kernel_rfl) ?_
            have hnb72 := NB222_200.out
            have hnc72 := NB200_222.out
            have hnb73 := NB222_215.out
            have hnc73 := NB215_222.out
            have hnb74 := NB222_230.out
            have hnc74 := NB230_222.out
            have hcz75_0 : w71.cell? ⟨gb222, 0, none⟩ = some (.slice Ao28 t216.length co28) := (blk_cell BK222.out 0).trans rfl
            have hcz75_1 : w71.cell? ⟨gb222, 1, none⟩ = some (.slice Ao32 t219.length co32) := (blk_cell BK222.out 1).trans rfl
            have hfz75_0 := blk_frozen BK222.out 0
            have hfz75_1 := blk_frozen BK222.out 1
            go_upto_region 14 with (first | ((with_reducible refine gate_callee (f := 29) rfl ?_); refine goesL_ (some 48) rfl rfl Try.func29 (by kernel_rfl) rfl #[.agg #[.slice Ao28 t216.length co28, .slice Ao32 t219.length co32], .int .i64 1] rfl (by (try simp only [List.map_toArray, List.map_cons, List.map_nil]); first | done | rfl | (simp only [List.length_drop, List.length_take]; rfl)) ?_; (with_reducible refine (laws_markDisk.calls kj10 (fun k_ => some k_ = (.slice Ao28 t216.length co28 : Value).ownBlock) (.slice Ao28 t216.length co28) t216 (fun k_ => some k_ = (.slice Ao32 t219.length co32 : Value).ownBlock) (.slice Ao32 t219.length co32) t219 1 t239 t240 t241 w _ ?side1 ?side2 ?side3 ?side4 ?side5 A65.out).mono ?_); (case side1 => repeat (first | (with_reducible first | exact HB.out | apply below_alloc | refine below_set ?_ GE200.out | refine below_set ?_ GE215.out | refine below_set ?_ GE222.out | refine below_set ?_ GE230.out) | exact HB.out)); (case side2 => exact Kd.R_tight rfl HO_223000.out); (case side3 => exact fun k_ e_ => (HO_223000.out.1 k_ e_.symm).1.1.2.2.1); (case side4 => exact Kd.R_tight rfl HO_223001.out); (case side5 => exact fun k_ e_ => (HO_223001.out.1 k_ e_.symm).1.1.2.2.1); rintro e w76 ⟨rfl, hy0, hy1, hb, hkp⟩; refine ⟨_, rfl, ?_⟩; have n0_ := Aside0.mk (Kd.R_mono (ok' := fun k_ => some k_ ≠ (.slice Ao24 t211.length co24 : Value).ownBlock ∧ some k_ ≠ (.slice Ao28 t216.length co28 : Value).ownBlock ∧ some k_ ≠ (.slice Ao32 t219.length co32 : Value).ownBlock ∧ some k_ ≠ (.slice Ao37 t223.length co37 : Value).ownBlock ∧ some k_ ≠ (.slice Ao42 t226.length co42 : Value).ownBlock ∧ some k_ ≠ (.slice Ao69 t232.length co69 : Value).ownBlock ∧ some k_ ≠ (.slice Ao70 t235.length co70 : Value).ownBlock) (Kd.R_keptB (HO_216000.out) hkp (fun k_ hk_ hs_ => Or.elim hs_ (fun e_ => (hk_.1.1.2.1) e_) (fun e_ => (hk_.1.1.2.2.1) e_))) (fun k_ hk_ => ⟨hk_.1.1.1.1, hk_.1.1.1.2.1, hk_.1.1.1.2.2.1, hk_.1.1.1.2.2.2.1, hk_.1.1.1.2.2.2.2, hk_.1.1.2, hk_.1.2⟩)); have n1_ := Aside0.mk (Kd.R_mono (ok' := fun k_ => some k_ ≠ (.slice Ao21 t208.length co21 : Value).ownBlock ∧ some k_ ≠ (.slice Ao28 t216.length co28 : Value).ownBlock ∧ some k_ ≠ (.slice Ao32 t219.length co32 : Value).ownBlock ∧ some k_ ≠ (.slice Ao37 t223.length co37 : Value).ownBlock ∧ some k_ ≠ (.slice Ao42 t226.length co42 : Value).ownBlock ∧ some k_ ≠ (.slice Ao69 t232.length co69 : Value).ownBlock ∧ some k_ ≠ (.slice Ao70 t235.length co70 : Value).ownBlock) (Kd.R_keptB (HO_216001.out) hkp (fun k_ hk_ hs_ => Or.elim hs_ (fun e_ => (hk_.1.1.2.1) e_) (fun e_ => (hk_.1.1.2.2.1) e_))) (fun k_ hk_ => ⟨hk_.1.1.1.1, hk_.1.1.1.2.1, hk_.1.1.1.2.2.1, hk_.1.1.1.2.2.2.1, hk_.1.1.1.2.2.2.2, hk_.1.1.2, hk_.1.2⟩)); have n2_ := Aside0.mk (Kd.R_reok rfl hy0 (fun k_ e_ => HO_223000.out.1 k_ e_)); have n3_ := Aside0.mk (Kd.R_reok rfl hy1 (fun k_ e_ => HO_223001.out.1 k_ e_)); have n4_ := Aside0.mk (Kd.R_mono (ok' := fun k_ => some k_ ≠ (.slice Ao21 t208.length co21 : Value).ownBlock ∧ some k_ ≠ (.slice Ao24 t211.length co24 : Value).ownBlock ∧ some k_ ≠ (.slice Ao28 t216.length co28 : Value).ownBlock ∧ some k_ ≠ (.slice Ao32 t219.length co32 : Value).ownBlock ∧ some k_ ≠ (.slice Ao42 t226.length co42 : Value).ownBlock ∧ some k_ ≠ (.slice Ao69 t232.length co69 : Value).ownBlock ∧ some k_ ≠ (.slice Ao70 t235.length co70 : Value).ownBlock) (Kd.R_keptB (HO_231000.out) hkp (fun k_ hk_ hs_ => Or.elim hs_ (fun e_ => (hk_.1.1.2.2.1) e_) (fun e_ => (hk_.1.1.2.2.2.1) e_))) (fun k_ hk_ => ⟨hk_.1.1.1.1, hk_.1.1.1.2.1, hk_.1.1.1.2.2.1, hk_.1.1.1.2.2.2.1, hk_.1.1.1.2.2.2.2, hk_.1.1.2, hk_.1.2⟩)); have n5_ := Aside0.mk (Kd.R_mono (ok' := fun k_ => some k_ ≠ (.slice Ao21 t208.length co21 : Value).ownBlock ∧ some k_ ≠ (.slice Ao24 t211.length co24 : Value).ownBlock ∧ some k_ ≠ (.slice Ao28 t216.length co28 : Value).ownBlock ∧ some k_ ≠ (.slice Ao32 t219.length co32 : Value).ownBlock ∧ some k_ ≠ (.slice Ao37 t223.length co37 : Value).ownBlock ∧ some k_ ≠ (.slice Ao69 t232.length co69 : Value).ownBlock ∧ some k_ ≠ (.slice Ao70 t235.length co70 : Value).ownBlock) (Kd.R_keptB (HO_231001.out) hkp (fun k_ hk_ hs_ => Or.elim hs_ (fun e_ => (hk_.1.1.2.2.1) e_) (fun e_ => (hk_.1.1.2.2.2.1) e_))) (fun k_ hk_ => ⟨hk_.1.1.1.1, hk_.1.1.1.2.1, hk_.1.1.1.2.2.1, hk_.1.1.1.2.2.2.1, hk_.1.1.1.2.2.2.2, hk_.1.1.2, hk_.1.2⟩)); have n6_ := Aside0.mk (blk_kept (by (with_reducible repeat (refine blk_alloc ?_ _)); exact BK200.out) hkp (fun hs_ => Or.elim hs_ (fun e_ => (fun e_ => (Kd.R_ne HO_223000.out BK200.out (by decide)) e_) e_) (fun e_ => (fun e_ => (Kd.R_ne HO_223001.out BK200.out (by decide)) e_) e_))); have n7_ := Aside0.mk (blk_kept (by (with_reducible repeat (refine blk_alloc ?_ _)); exact BK215.out) hkp (fun hs_ => Or.elim hs_ (fun e_ => (fun e_ => (Kd.R_ne HO_223000.out BK215.out (by decide)) e_) e_) (fun e_ => (fun e_ => (Kd.R_ne HO_223001.out BK215.out (by decide)) e_) e_))); have n8_ := Aside0.mk (blk_kept (by (with_reducible repeat (refine blk_alloc ?_ _)); exact BK222.out) hkp (fun hs_ => Or.elim hs_ (fun e_ => (fun e_ => (Kd.R_ne HO_223000.out BK222.out (by decide)) e_) e_) (fun e_ => (fun e_ => (Kd.R_ne HO_223001.out BK222.out (by decide)) e_) e_))); have n9_ := Aside0.mk (blk_kept (by (with_reducible repeat (refine blk_alloc ?_ _)); exact BK230.out) hkp (fun hs_ => Or.elim hs_ (fun e_ => (fun e_ => (Kd.R_ne HO_223000.out BK230.out (by decide)) e_) e_) (fun e_ => (fun e_ => (Kd.R_ne HO_223001.out BK230.out (by decide)) e_) e_))); have n10_ := Aside0.mk (Kd.R_mono (ok' := fun k_ => some k_ ≠ (.slice Ao21 t208.length co21 : Value).ownBlock ∧ some k_ ≠ (.slice Ao24 t211.length co24 : Value).ownBlock ∧ some k_ ≠ (.slice Ao28 t216.length co28 : Value).ownBlock ∧ some k_ ≠ (.slice Ao32 t219.length co32 : Value).ownBlock ∧ some k_ ≠ (.slice Ao37 t223.length co37 : Value).ownBlock ∧ some k_ ≠ (.slice Ao42 t226.length co42 : Value).ownBlock ∧ some k_ ≠ (.slice Ao70 t235.length co70 : Value).ownBlock) (Kd.R_keptB (HO234.out) hkp (fun k_ hk_ hs_ => Or.elim hs_ (fun e_ => (hk_.1.1.1.2) e_) (fun e_ => (hk_.1.1.2) e_))) (fun k_ hk_ => ⟨hk_.1.1.1.1.1.1.2, hk_.1.1.1.1.1.2, hk_.1.1.1.1.2, hk_.1.1.1.2, hk_.1.1.2, hk_.1.2, hk_.1.1.1.1.1.1.1⟩)); have n11_ := Aside0.mk (Kd.R_mono (ok' := fun k_ => some k_ ≠ (.slice Ao21 t208.length co21 : Value).ownBlock ∧ some k_ ≠ (.slice Ao24 t211.length co24 : Value).ownBlock ∧ some k_ ≠ (.slice Ao28 t216.length co28 : Value).ownBlock ∧ some k_ ≠ (.slice Ao32 t219.length co32 : Value).ownBlock ∧ some k_ ≠ (.slice Ao37 t223.length co37 : Value).ownBlock ∧ some k_ ≠ (.slice Ao42 t226.length co42 : Value).ownBlock ∧ some k_ ≠ (.slice Ao69 t232.length co69 : Value).ownBlock) (Kd.R_keptB (HO237.out) hkp (fun k_ hk_ hs_ => Or.elim hs_ (fun e_ => (hk_.1.1.1.2) e_) (fun e_ => (hk_.1.1.2) e_))) (fun k_ hk_ => ⟨hk_.1.1.1.1.1.1.2, hk_.1.1.1.1.1.2, hk_.1.1.1.1.2, hk_.1.1.1.2, hk_.1.1.2, hk_.1.2, hk_.1.1.1.1.1.1.1⟩)); have n12_ := Aside0.mk (hb); clear HO_216000; clear HO_216001; clear HO_223000; clear HO_223001; clear HO_231000; clear HO_231001; clear BK200; clear BK215; clear BK222; clear BK230; clear HO234; clear HO237; clear HB; have HO_216000 := n0_; have HO_216001 := n1_; have HO_223000 := n2_; have HO_223001 := n3_; have HO_231000 := n4_; have HO_231001 := n5_; have BK200 := n6_; have BK215 := n7_; have BK222 := n8_; have BK230 := n9_; have HO234 := n10_; have HO237 := n11_; have HB := n12_; clear n0_ n1_ n2_ n3_ n4_ n5_ n6_ n7_ n8_ n9_ n10_ n11_ n12_; (try clear hb); (try clear hkp); (try clear hy0); (try clear hy1)))
            (try simp only [Act.put, List.setIfInBounds_toArray, List.set_cons_zero, List.set_cons_succ])
            go_cut [61] (fun v61 wc => ∃ (kq : Nat) (x61_65 : Bool), v61 = .bool x61_65 ∧ Aside0 (laws_FnExactSyncDisk.j1 kq t214 x61_65 l0_0 l0_1 t208 t211 t223 t226 = some r) ∧ Aside0 (kq ≤ kj10) ∧ Aside0 (Kd.R Kd.string 9 wc w.heap.size (fun k_ => some k_ ≠ ((.slice Ao24 t211.length co24) : Value).ownBlock ∧ some k_ ≠ ((.slice Ao28 t216.length co28) : Value).ownBlock ∧ some k_ ≠ ((.slice Ao32 t219.length co32) : Value).ownBlock ∧ some k_ ≠ ((.slice Ao37 t223.length co37) : Value).ownBlock ∧ some k_ ≠ ((.slice Ao42 t226.length co42) : Value).ownBlock) (.slice Ao21 t208.length co21) t208) ∧ Aside0 (Kd.R Kd.string 9 wc w.heap.size (fun k_ => some k_ ≠ ((.slice Ao21 t208.length co21) : Value).ownBlock ∧ some k_ ≠ ((.slice Ao28 t216.length co28) : Value).ownBlock ∧ some k_ ≠ ((.slice Ao32 t219.length co32) : Value).ownBlock ∧ some k_ ≠ ((.slice Ao37 t223.length co37) : Value).ownBlock ∧ some k_ ≠ ((.slice Ao42 t226.length co42) : Value).ownBlock) (.slice Ao24 t211.length co24) t211) ∧ Aside0 (Kd.R Kd.string 9 wc w.heap.size (fun k_ => some k_ ≠ ((.slice Ao21 t208.length co21) : Value).ownBlock ∧ some k_ ≠ ((.slice Ao24 t211.length co24) : Value).ownBlock ∧ some k_ ≠ ((.slice Ao32 t219.length co32) : Value).ownBlock ∧ some k_ ≠ ((.slice Ao37 t223.length co37) : Value).ownBlock ∧ some k_ ≠ ((.slice Ao42 t226.length co42) : Value).ownBlock) (.slice Ao28 t216.length co28) t240) ∧ Aside0 (Kd.R Kd.string 9 wc w.heap.size (fun k_ => some k_ ≠ ((.slice Ao21 t208.length co21) : Value).ownBlock ∧ some k_ ≠ ((.slice Ao24 t211.length co24) : Value).ownBlock ∧ some k_ ≠ ((.slice Ao28 t216.length co28) : Value).ownBlock ∧ some k_ ≠ ((.slice Ao37 t223.length co37) : Value).ownBlock ∧ some k_ ≠ ((.slice Ao42 t226.length co42) : Value).ownBlock) (.slice Ao32 t219.length co32) t241) ∧ Aside0 (Kd.R Kd.string 9 wc w.heap.size (fun k_ => some k_ ≠ ((.slice Ao21 t208.length co21) : Value).ownBlock ∧ some k_ ≠ ((.slice Ao24 t211.length co24) : Value).ownBlock ∧ some k_ ≠ ((.slice Ao28 t216.length co28) : Value).ownBlock ∧ some k_ ≠ ((.slice Ao32 t219.length co32) : Value).ownBlock ∧ some k_ ≠ ((.slice Ao42 t226.length co42) : Value).ownBlock) (.slice Ao37 t223.length co37) t223) ∧ Aside0 (Kd.R Kd.string 9 wc w.heap.size (fun k_ => some k_ ≠ ((.slice Ao21 t208.length co21) : Value).ownBlock ∧ some k_ ≠ ((.slice Ao24 t211.length co24) : Value).ownBlock ∧ some k_ ≠ ((.slice Ao28 t216.length co28) : Value).ownBlock ∧ some k_ ≠ ((.slice Ao32 t219.length co32) : Value).ownBlock ∧ some k_ ≠ ((.slice Ao37 t223.length co37) : Value).ownBlock) (.slice Ao42 t226.length co42) t226) ∧ Aside0 (wc.heap[gb200]? = some (.cells #[(.slice A0_0 l0_0.length c0_0), (.slice A0_1 l0_1.length c0_1)] 38 (0, 0))) ∧ Aside0 (wc.heap[gb215]? = some (.cells #[(.slice Ao21 t208.length co21), (.slice Ao24 t211.length co24)] 40 (0, 0))) ∧ Aside0 (wc.heap[gb222]? = some (.cells #[(.slice Ao28 t216.length co28), (.slice Ao32 t219.length co32)] 40 (0, 0))) ∧ Aside0 (wc.heap[gb230]? = some (.cells #[(.slice Ao37 t223.length co37), (.slice Ao42 t226.length co42)] 40 (0, 0))) ∧ Aside0 (Below w.heap.size w wc))
            case first =>
              have H := HC66.out
              clear HC66
              by_cases c77 : t239 < 0
              · rw [if_pos c77] at H
                have c77b0 : decide (t239 < 0) = true := decide_eq_true c77
                clear c77
                (first | rw [c77b0] | (simp only [i64_w, i32_w]; rw [c77b0]) | skip)
                have H' := Aside0.mk H
                clear H
                go_wp2
                go_meet
                case rel => exact ⟨_, (true), (by first | rfl | (simp; done) | (simp [*]; done)), H', ⟨by have := HJ10.out; first | omega | exact Nat.le_refl _⟩, ⟨by (with_reducible repeat (first | apply Kd.R_alloc)); exact Kd.R_mono HO_216000.out (fun _ hk => ⟨hk.1, ⟨hk.2.1, ⟨hk.2.2.1, ⟨hk.2.2.2.1, hk.2.2.2.2.1⟩⟩⟩⟩)⟩, ⟨by (with_reducible repeat (first | apply Kd.R_alloc)); exact Kd.R_mono HO_216001.out (fun _ hk => ⟨hk.1, ⟨hk.2.1, ⟨hk.2.2.1, ⟨hk.2.2.2.1, hk.2.2.2.2.1⟩⟩⟩⟩)⟩, ⟨by (with_reducible repeat (first | apply Kd.R_alloc)); exact Kd.R_mono HO_223000.out (fun _ hk => ⟨hk.1.1.1, ⟨hk.1.1.2.1, ⟨hk.1.1.2.2.1, ⟨hk.1.1.2.2.2.1, hk.1.1.2.2.2.2⟩⟩⟩⟩)⟩, ⟨by (with_reducible repeat (first | apply Kd.R_alloc)); exact Kd.R_mono HO_223001.out (fun _ hk => ⟨hk.1.1.1, ⟨hk.1.1.2.1, ⟨hk.1.1.2.2.1, ⟨hk.1.1.2.2.2.1, hk.1.1.2.2.2.2⟩⟩⟩⟩)⟩, ⟨by (with_reducible repeat (first | apply Kd.R_alloc)); exact Kd.R_mono HO_231000.out (fun _ hk => ⟨hk.1, ⟨hk.2.1, ⟨hk.2.2.1, ⟨hk.2.2.2.1, hk.2.2.2.2.1⟩⟩⟩⟩)⟩, ⟨by (with_reducible repeat (first | apply Kd.R_alloc)); exact Kd.R_mono HO_231001.out (fun _ hk => ⟨hk.1, ⟨hk.2.1, ⟨hk.2.2.1, ⟨hk.2.2.2.1, hk.2.2.2.2.1⟩⟩⟩⟩)⟩, ⟨by (with_reducible repeat (refine blk_alloc ?_ _)); exact BK200.out⟩, ⟨by (with_reducible repeat (refine blk_alloc ?_ _)); exact BK215.out⟩, ⟨by (with_reducible repeat (refine blk_alloc ?_ _)); exact BK222.out⟩, ⟨by (with_reducible repeat (refine blk_alloc ?_ _)); exact BK230.out⟩, ⟨by repeat (first | (with_reducible first | exact HB.out | apply below_alloc | refine below_set ?_ GE200.out | refine below_set ?_ GE215.out | refine below_set ?_ GE222.out | refine below_set ?_ GE230.out) | exact HB.out)⟩⟩
              · rw [if_neg c77] at H
                have c77b0 : decide (t239 < 0) = false := decide_eq_false c77
                clear c77
                (first | rw [c77b0] | (simp only [i64_w, i32_w]; rw [c77b0]) | skip)
                replace H := Option.bind_eq_some_iff.mp H
                obtain ⟨t242, A780, H⟩ := H
                replace H : (if t242 = true then (laws_FnExactSyncDisk.j1 kj10 t214 (t229 != t214) l0_0 l0_1 t208 t211 t223 t226) else (laws_FnExactSyncDisk.j1 kj10 t214 true l0_0 l0_1 t208 t211 t223 t226)) = some r := H
                have A78 := Aside0.mk A780
                clear A780
                by_cases c79 : t242 = true
                · subst c79
                  have H1 : (laws_FnExactSyncDisk.j1 kj10 t214 (t229 != t214) l0_0 l0_1 t208 t211 t223 t226) = some r := by rw [if_pos rfl] at H; exact H
                  clear H
                  have H := H1
                  clear H1
                  have H' := Aside0.mk H
                  clear H
                  have hnb80 := NB230_200.out
                  have hnc80 := NB200_230.out
                  have hnb81 := NB230_215.out
                  have hnc81 := NB215_230.out
                  have hnb82 := NB230_222.out
                  have hnc82 := NB222_230.out
                  have hcz83_0 : w76.cell? ⟨gb230, 0, none⟩ = some (.slice Ao37 t223.length co37) := (blk_cell BK230.out 0).trans rfl
                  have hcz83_1 : w76.cell? ⟨gb230, 1, none⟩ = some (.slice Ao42 t226.length co42) := (blk_cell BK230.out 1).trans rfl
                  have hfz83_0 := blk_frozen BK230.out 0
                  have hfz83_1 := blk_frozen BK230.out 1
                  have hnb84 := NB215_200.out
                  have hnc84 := NB200_215.out
                  have hnb85 := NB215_222.out
                  have hnc85 := NB222_215.out
                  have hcz86_0 : w76.cell? ⟨gb215, 0, none⟩ = some (.slice Ao21 t208.length co21) := (blk_cell BK215.out 0).trans rfl
                  have hcz86_1 : w76.cell? ⟨gb215, 1, none⟩ = some (.slice Ao24 t211.length co24) := (blk_cell BK215.out 1).trans rfl
                  have hfz86_0 := blk_frozen BK215.out 0
                  have hfz86_1 := blk_frozen BK215.out 1
                  go_wp2_with (first | (go_at_call 28; (with_reducible refine (laws_eqDisk.calls kj10 _ _ t223 _ _ t226 _ _ t208 _ _ t211 true _ ?side1 ?side2 ?side3 ?side4 ?side5 ?side6 ?side7 ?side8 A78.out).mono ?_); (case side1 => repeat (first | exact (Kd.R_reads' HO_231000.out).2.2 | (with_reducible refine Kd.C_alloc ?_ _))); (case side2 => exact (Kd.R_reads' HO_231000.out).2.1); (case side3 => repeat (first | exact (Kd.R_reads' HO_231001.out).2.2 | (with_reducible refine Kd.C_alloc ?_ _))); (case side4 => exact (Kd.R_reads' HO_231001.out).2.1); (case side5 => repeat (first | exact (Kd.R_reads' HO_216000.out).2.2 | (with_reducible refine Kd.C_alloc ?_ _))); (case side6 => exact (Kd.R_reads' HO_216000.out).2.1); (case side7 => repeat (first | exact (Kd.R_reads' HO_216001.out).2.2 | (with_reducible refine Kd.C_alloc ?_ _))); (case side8 => exact (Kd.R_reads' HO_216001.out).2.1); rintro e w87 ⟨rfl, hb⟩; have n0_ := Aside0.mk (Kd.R_below (by (with_reducible repeat (first | apply Kd.R_alloc)); exact HO_216000.out) hb); have n1_ := Aside0.mk (Kd.R_below (by (with_reducible repeat (first | apply Kd.R_alloc)); exact HO_216001.out) hb); have n2_ := Aside0.mk (Kd.R_below (by (with_reducible repeat (first | apply Kd.R_alloc)); exact HO_223000.out) hb); have n3_ := Aside0.mk (Kd.R_below (by (with_reducible repeat (first | apply Kd.R_alloc)); exact HO_223001.out) hb); have n4_ := Aside0.mk (Kd.R_below (by (with_reducible repeat (first | apply Kd.R_alloc)); exact HO_231000.out) hb); have n5_ := Aside0.mk (Kd.R_below (by (with_reducible repeat (first | apply Kd.R_alloc)); exact HO_231001.out) hb); have n6_ := Aside0.mk (Kd.R_below (by (with_reducible repeat (first | apply Kd.R_alloc)); exact HO234.out) hb); have n7_ := Aside0.mk (Kd.R_below (by (with_reducible repeat (first | apply Kd.R_alloc)); exact HO237.out) hb); have n8_ := Aside0.mk (blk_below (g := gb200) (o := .cells #[.slice A0_0 l0_0.length c0_0, .slice A0_1 l0_1.length c0_1] 38 (0, 0)) (by (with_reducible repeat (refine blk_alloc ?_ _)); exact BK200.out) hb); have n9_ := Aside0.mk (blk_below (g := gb215) (o := .cells #[.slice Ao21 t208.length co21, .slice Ao24 t211.length co24] 40 (0, 0)) (by (with_reducible repeat (refine blk_alloc ?_ _)); exact BK215.out) hb); have n10_ := Aside0.mk (blk_below (g := gb222) (o := .cells #[.slice Ao28 t216.length co28, .slice Ao32 t219.length co32] 40 (0, 0)) (by (with_reducible repeat (refine blk_alloc ?_ _)); exact BK222.out) hb); have n11_ := Aside0.mk (blk_below (g := gb230) (o := .cells #[.slice Ao37 t223.length co37, .slice Ao42 t226.length co42] 40 (0, 0)) (by (with_reducible repeat (refine blk_alloc ?_ _)); exact BK230.out) hb); have n12_ := Aside0.mk (below_step (by repeat (first | (with_reducible first | exact HB.out | apply below_alloc | refine below_set ?_ GE200.out | refine below_set ?_ GE215.out | refine below_set ?_ GE222.out | refine below_set ?_ GE230.out) | exact HB.out)) hb); clear HO_216000; clear HO_216001; clear HO_223000; clear HO_223001; clear HO_231000; clear HO_231001; clear HO234; clear HO237; clear BK200; clear BK215; clear BK222; clear BK230; clear HB; have HO_216000 := n0_; have HO_216001 := n1_; have HO_223000 := n2_; have HO_223001 := n3_; have HO_231000 := n4_; have HO_231001 := n5_; have HO234 := n6_; have HO237 := n7_; have BK200 := n8_; have BK215 := n9_; have BK222 := n10_; have BK230 := n11_; have HB := n12_; clear n0_ n1_ n2_ n3_ n4_ n5_ n6_ n7_ n8_ n9_ n10_ n11_ n12_; (try clear hb); (try clear hb2); (try clear hk); (try clear hi)))
                  go_meet
                  case rel => exact ⟨_, ((t229 != t214)), (by first | rfl | (simp; done) | (simp [*]; done)), H', ⟨by have := HJ10.out; first | omega | exact Nat.le_refl _⟩, ⟨by (with_reducible repeat (first | apply Kd.R_alloc)); exact Kd.R_mono HO_216000.out (fun _ hk => ⟨hk.1, ⟨hk.2.1, ⟨hk.2.2.1, ⟨hk.2.2.2.1, hk.2.2.2.2.1⟩⟩⟩⟩)⟩, ⟨by (with_reducible repeat (first | apply Kd.R_alloc)); exact Kd.R_mono HO_216001.out (fun _ hk => ⟨hk.1, ⟨hk.2.1, ⟨hk.2.2.1, ⟨hk.2.2.2.1, hk.2.2.2.2.1⟩⟩⟩⟩)⟩, ⟨by (with_reducible repeat (first | apply Kd.R_alloc)); exact Kd.R_mono HO_223000.out (fun _ hk => ⟨hk.1.1.1, ⟨hk.1.1.2.1, ⟨hk.1.1.2.2.1, ⟨hk.1.1.2.2.2.1, hk.1.1.2.2.2.2⟩⟩⟩⟩)⟩, ⟨by (with_reducible repeat (first | apply Kd.R_alloc)); exact Kd.R_mono HO_223001.out (fun _ hk => ⟨hk.1.1.1, ⟨hk.1.1.2.1, ⟨hk.1.1.2.2.1, ⟨hk.1.1.2.2.2.1, hk.1.1.2.2.2.2⟩⟩⟩⟩)⟩, ⟨by (with_reducible repeat (first | apply Kd.R_alloc)); exact Kd.R_mono HO_231000.out (fun _ hk => ⟨hk.1, ⟨hk.2.1, ⟨hk.2.2.1, ⟨hk.2.2.2.1, hk.2.2.2.2.1⟩⟩⟩⟩)⟩, ⟨by (with_reducible repeat (first | apply Kd.R_alloc)); exact Kd.R_mono HO_231001.out (fun _ hk => ⟨hk.1, ⟨hk.2.1, ⟨hk.2.2.1, ⟨hk.2.2.2.1, hk.2.2.2.2.1⟩⟩⟩⟩)⟩, ⟨by (with_reducible repeat (refine blk_alloc ?_ _)); exact BK200.out⟩, ⟨by (with_reducible repeat (refine blk_alloc ?_ _)); exact BK215.out⟩, ⟨by (with_reducible repeat (refine blk_alloc ?_ _)); exact BK222.out⟩, ⟨by (with_reducible repeat (refine blk_alloc ?_ _)); exact BK230.out⟩, ⟨by repeat (first | (with_reducible first | exact HB.out | apply below_alloc | refine below_set ?_ GE200.out | refine below_set ?_ GE215.out | refine below_set ?_ GE222.out | refine below_set ?_ GE230.out) | exact HB.out)⟩⟩
                · replace c79 := Bool.eq_false_iff.mpr c79
                  subst c79
                  have H1 : (laws_FnExactSyncDisk.j1 kj10 t214 true l0_0 l0_1 t208 t211 t223 t226) = some r := by rw [if_neg (show ¬ (false = true) by decide)] at H; exact H
                  clear H
                  have H := H1
                  clear H1
                  have H' := Aside0.mk H
                  clear H
                  have hnb88 := NB230_200.out
                  have hnc88 := NB200_230.out
                  have hnb89 := NB230_215.out
                  have hnc89 := NB215_230.out
                  have hnb90 := NB230_222.out
                  have hnc90 := NB222_230.out
                  have hcz91_0 : w76.cell? ⟨gb230, 0, none⟩ = some (.slice Ao37 t223.length co37) := (blk_cell BK230.out 0).trans rfl
                  have hcz91_1 : w76.cell? ⟨gb230, 1, none⟩ = some (.slice Ao42 t226.length co42) := (blk_cell BK230.out 1).trans rfl
                  have hfz91_0 := blk_frozen BK230.out 0
                  have hfz91_1 := blk_frozen BK230.out 1
                  have hnb92 := NB215_200.out
                  have hnc92 := NB200_215.out
                  have hnb93 := NB215_222.out
                  have hnc93 := NB222_215.out
                  have hcz94_0 : w76.cell? ⟨gb215, 0, none⟩ = some (.slice Ao21 t208.length co21) := (blk_cell BK215.out 0).trans rfl
                  have hcz94_1 : w76.cell? ⟨gb215, 1, none⟩ = some (.slice Ao24 t211.length co24) := (blk_cell BK215.out 1).trans rfl
                  have hfz94_0 := blk_frozen BK215.out 0
                  have hfz94_1 := blk_frozen BK215.out 1
                  go_wp2_with (first | (go_at_call 28; (with_reducible refine (laws_eqDisk.calls kj10 _ _ t223 _ _ t226 _ _ t208 _ _ t211 false _ ?side1 ?side2 ?side3 ?side4 ?side5 ?side6 ?side7 ?side8 A78.out).mono ?_); (case side1 => repeat (first | exact (Kd.R_reads' HO_231000.out).2.2 | (with_reducible refine Kd.C_alloc ?_ _))); (case side2 => exact (Kd.R_reads' HO_231000.out).2.1); (case side3 => repeat (first | exact (Kd.R_reads' HO_231001.out).2.2 | (with_reducible refine Kd.C_alloc ?_ _))); (case side4 => exact (Kd.R_reads' HO_231001.out).2.1); (case side5 => repeat (first | exact (Kd.R_reads' HO_216000.out).2.2 | (with_reducible refine Kd.C_alloc ?_ _))); (case side6 => exact (Kd.R_reads' HO_216000.out).2.1); (case side7 => repeat (first | exact (Kd.R_reads' HO_216001.out).2.2 | (with_reducible refine Kd.C_alloc ?_ _))); (case side8 => exact (Kd.R_reads' HO_216001.out).2.1); rintro e w95 ⟨rfl, hb⟩; have n0_ := Aside0.mk (Kd.R_below (by (with_reducible repeat (first | apply Kd.R_alloc)); exact HO_216000.out) hb); have n1_ := Aside0.mk (Kd.R_below (by (with_reducible repeat (first | apply Kd.R_alloc)); exact HO_216001.out) hb); have n2_ := Aside0.mk (Kd.R_below (by (with_reducible repeat (first | apply Kd.R_alloc)); exact HO_223000.out) hb); have n3_ := Aside0.mk (Kd.R_below (by (with_reducible repeat (first | apply Kd.R_alloc)); exact HO_223001.out) hb); have n4_ := Aside0.mk (Kd.R_below (by (with_reducible repeat (first | apply Kd.R_alloc)); exact HO_231000.out) hb); have n5_ := Aside0.mk (Kd.R_below (by (with_reducible repeat (first | apply Kd.R_alloc)); exact HO_231001.out) hb); have n6_ := Aside0.mk (Kd.R_below (by (with_reducible repeat (first | apply Kd.R_alloc)); exact HO234.out) hb); have n7_ := Aside0.mk (Kd.R_below (by (with_reducible repeat (first | apply Kd.R_alloc)); exact HO237.out) hb); have n8_ := Aside0.mk (blk_below (g := gb200) (o := .cells #[.slice A0_0 l0_0.length c0_0, .slice A0_1 l0_1.length c0_1] 38 (0, 0)) (by (with_reducible repeat (refine blk_alloc ?_ _)); exact BK200.out) hb); have n9_ := Aside0.mk (blk_below (g := gb215) (o := .cells #[.slice Ao21 t208.length co21, .slice Ao24 t211.length co24] 40 (0, 0)) (by (with_reducible repeat (refine blk_alloc ?_ _)); exact BK215.out) hb); have n10_ := Aside0.mk (blk_below (g := gb222) (o := .cells #[.slice Ao28 t216.length co28, .slice Ao32 t219.length co32] 40 (0, 0)) (by (with_reducible repeat (refine blk_alloc ?_ _)); exact BK222.out) hb); have n11_ := Aside0.mk (blk_below (g := gb230) (o := .cells #[.slice Ao37 t223.length co37, .slice Ao42 t226.length co42] 40 (0, 0)) (by (with_reducible repeat (refine blk_alloc ?_ _)); exact BK230.out) hb); have n12_ := Aside0.mk (below_step (by repeat (first | (with_reducible first | exact HB.out | apply below_alloc | refine below_set ?_ GE200.out | refine below_set ?_ GE215.out | refine below_set ?_ GE222.out | refine below_set ?_ GE230.out) | exact HB.out)) hb); clear HO_216000; clear HO_216001; clear HO_223000; clear HO_223001; clear HO_231000; clear HO_231001; clear HO234; clear HO237; clear BK200; clear BK215; clear BK222; clear BK230; clear HB; have HO_216000 := n0_; have HO_216001 := n1_; have HO_223000 := n2_; have HO_223001 := n3_; have HO_231000 := n4_; have HO_231001 := n5_; have HO234 := n6_; have HO237 := n7_; have BK200 := n8_; have BK215 := n9_; have BK222 := n10_; have BK230 := n11_; have HB := n12_; clear n0_ n1_ n2_ n3_ n4_ n5_ n6_ n7_ n8_ n9_ n10_ n11_ n12_; (try clear hb); (try clear hb2); (try clear hk); (try clear hi)))
                  go_meet
                  case rel => exact ⟨_, (true), (by first | rfl | (simp; done) | (simp [*]; done)), H', ⟨by have := HJ10.out; first | omega | exact Nat.le_refl _⟩, ⟨by (with_reducible repeat (first | apply Kd.R_alloc)); exact Kd.R_mono HO_216000.out (fun _ hk => ⟨hk.1, ⟨hk.2.1, ⟨hk.2.2.1, ⟨hk.2.2.2.1, hk.2.2.2.2.1⟩⟩⟩⟩)⟩, ⟨by (with_reducible repeat (first | apply Kd.R_alloc)); exact Kd.R_mono HO_216001.out (fun _ hk => ⟨hk.1, ⟨hk.2.1, ⟨hk.2.2.1, ⟨hk.2.2.2.1, hk.2.2.2.2.1⟩⟩⟩⟩)⟩, ⟨by (with_reducible repeat (first | apply Kd.R_alloc)); exact Kd.R_mono HO_223000.out (fun _ hk => ⟨hk.1.1.1, ⟨hk.1.1.2.1, ⟨hk.1.1.2.2.1, ⟨hk.1.1.2.2.2.1, hk.1.1.2.2.2.2⟩⟩⟩⟩)⟩, ⟨by (with_reducible repeat (first | apply Kd.R_alloc)); exact Kd.R_mono HO_223001.out (fun _ hk => ⟨hk.1.1.1, ⟨hk.1.1.2.1, ⟨hk.1.1.2.2.1, ⟨hk.1.1.2.2.2.1, hk.1.1.2.2.2.2⟩⟩⟩⟩)⟩, ⟨by (with_reducible repeat (first | apply Kd.R_alloc)); exact Kd.R_mono HO_231000.out (fun _ hk => ⟨hk.1, ⟨hk.2.1, ⟨hk.2.2.1, ⟨hk.2.2.2.1, hk.2.2.2.2.1⟩⟩⟩⟩)⟩, ⟨by (with_reducible repeat (first | apply Kd.R_alloc)); exact Kd.R_mono HO_231001.out (fun _ hk => ⟨hk.1, ⟨hk.2.1, ⟨hk.2.2.1, ⟨hk.2.2.2.1, hk.2.2.2.2.1⟩⟩⟩⟩)⟩, ⟨by (with_reducible repeat (refine blk_alloc ?_ _)); exact BK200.out⟩, ⟨by (with_reducible repeat (refine blk_alloc ?_ _)); exact BK215.out⟩, ⟨by (with_reducible repeat (refine blk_alloc ?_ _)); exact BK222.out⟩, ⟨by (with_reducible repeat (refine blk_alloc ?_ _)); exact BK230.out⟩, ⟨by repeat (first | (with_reducible first | exact HB.out | apply below_alloc | refine below_set ?_ GE200.out | refine below_set ?_ GE215.out | refine below_set ?_ GE222.out | refine below_set ?_ GE230.out) | exact HB.out)⟩⟩
            case rest =>
              clear HC66
              try clear c2
              try clear p2
              try clear c3
              try clear c3b0
              try clear c4
              try clear c5
              try clear c6
              try clear c7
              try clear c8
              try clear c9
              try clear c22
              try clear c24
              try clear c25
              try clear c26
              try clear c27
              try clear c28
              try clear c29
              try clear c30
              try clear c38
              try clear c39
              try clear c40
              try clear c44
              try clear c45
              try clear c46
              try clear c47
              try clear c49
              try clear c50
              try clear c53
              try clear c54
              try clear c55
              try clear c57
              try clear c58
              try clear c61
              try clear c64
              try clear c72
              try clear c73
              try clear c74
              try clear c77
              try clear c77b0
              try clear c79
              try clear c80
              try clear c81
              try clear c82
              try clear c84
              try clear c85
              try clear c88
              try clear c89
              try clear c90
              try clear c92
              try clear c93
              try clear hcz13_0
              try clear hcz13_1
              try clear hcz15_0
              try clear hcz15_1
              try clear hcz23_0
              try clear hcz23_1
              try clear hcz25_0
              try clear hcz25_1
              try clear hcz31_0
              try clear hcz31_1
              try clear hcz34_0
              try clear hcz34_1
              try clear hcz41_0
              try clear hcz41_1
              try clear hcz48_0
              try clear hcz48_1
              try clear hcz51_0
              try clear hcz51_1
              try clear hcz56_0
              try clear hcz56_1
              try clear hcz59_0
              try clear hcz59_1
              try clear hcz5_0
              try clear hcz5_1
              try clear hcz75_0
              try clear hcz75_1
              try clear hcz83_0
              try clear hcz83_1
              try clear hcz86_0
              try clear hcz86_1
              try clear hcz91_0
              try clear hcz91_1
              try clear hcz94_0
              try clear hcz94_1
              try clear hfz13_0
              try clear hfz13_1
              try clear hfz15_0
              try clear hfz15_1
              try clear hfz23_0
              try clear hfz23_1
              try clear hfz25_0
              try clear hfz25_1
              try clear hfz31_0
              try clear hfz31_1
              try clear hfz34_0
              try clear hfz34_1
              try clear hfz41_0
              try clear hfz41_1
              try clear hfz48_0
              try clear hfz48_1
              try clear hfz51_0
              try clear hfz51_1
              try clear hfz56_0
              try clear hfz56_1
              try clear hfz59_0
              try clear hfz59_1
              try clear hfz5_0
              try clear hfz5_1
              try clear hfz75_0
              try clear hfz75_1
              try clear hfz83_0
              try clear hfz83_1
              try clear hfz86_0
              try clear hfz86_1
              try clear hfz91_0
              try clear hfz91_1
              try clear hfz94_0
              try clear hfz94_1
              try clear p2
              obtain ⟨kq, x61_65, rfl, HA, HJ65, HO_216000, HO_216001, HO_223000, HO_223001, HO_231000, HO_231001, BK200, BK215, BK222, BK230, HB⟩ := hcut
              have hl223000_65 := (Kd.R_reads' HO_223000.out).1
              rw [hl223000_65] at HO_223000
              (try simp only [hl223000_65])
              (try simp only [hl223000_65] at BK200)
              (try simp only [hl223000_65] at BK215)
              (try simp only [hl223000_65] at BK222)
              (try simp only [hl223000_65] at BK230)
              (try simp only [hl223000_65] at HO_216000)
              (try simp only [hl223000_65] at HO_216001)
              (try simp only [hl223000_65] at HO_223001)
              (try simp only [hl223000_65] at HO_231000)
              (try simp only [hl223000_65] at HO_231001)
              have hl223001_65 := (Kd.R_reads' HO_223001.out).1
              rw [hl223001_65] at HO_223001
              (try simp only [hl223001_65])
              (try simp only [hl223001_65] at BK200)
              (try simp only [hl223001_65] at BK215)
              (try simp only [hl223001_65] at BK222)
              (try simp only [hl223001_65] at BK230)
              (try simp only [hl223001_65] at HO_216000)
              (try simp only [hl223001_65] at HO_216001)
              (try simp only [hl223001_65] at HO_223000)
              (try simp only [hl223001_65] at HO_231000)
              (try simp only [hl223001_65] at HO_231001)
              cases kq with
              | zero => exact absurd HA.out (by simp [laws_FnExactSyncDisk.j1])
              | succ kj65 =>
                have H := HA.out
                clear HA
                simp only [laws_FnExactSyncDisk.j1] at H
                by_cases c96 : x61_65 = true
                · subst c96
                  have H1 : (some false) = some r := by rw [if_pos rfl] at H; exact H
                  clear H
                  have H := H1
                  clear H1
                  obtain rfl := Option.some.inj H
                  go_wp2
                  go_ret
                  exact ⟨by first | rfl | (simp [errW_none, errW_some] <;> rfl) | (simp [*, errW_none, errW_some] <;> rfl), by repeat (first | (with_reducible first | exact HB.out | apply below_alloc | refine below_set ?_ GE200.out | refine below_set ?_ GE215.out | refine below_set ?_ GE222.out | refine below_set ?_ GE230.out) | exact HB.out)⟩
                · replace c96 := Bool.eq_false_iff.mpr c96
                  subst c96
                  have H1 : ((laws_markDisk.f kj65 t223 t226 1).bind fun bt243 => ((laws_heldDisk.f kj65 bt243.2.1 bt243.2.2 1).bind fun t246 => (if t246 < 0 then (some false) else (if t246 = bt243.1 then ((laws_toDisk.f kj65 l0_0 l0_1).bind fun bt247 => ((impl_SyncDisk.f kj65 bt247.1 bt247.2).bind fun bt253 => ((laws_eqDisk.f kj65 bt253.1 bt253.2.1 t208 t211).bind fun t261 => (if t261 = true then (laws_FnExactSyncDisk.j2 kj65 bt243.1 (bt253.2.2 != t214) bt243.2.1 bt243.2.2) else (laws_FnExactSyncDisk.j2 kj65 bt243.1 true bt243.2.1 bt243.2.2))))) else (some false))))) = some r := by rw [if_neg (show ¬ (false = true) by decide)] at H; exact H
                  clear H
                  have H := H1
                  clear H1
                  replace H := Option.bind_eq_some_iff.mp H
                  obtain ⟨⟨t243, t244, t245⟩, A970, H⟩ := H
                  replace H : ((laws_heldDisk.f kj65 t244 t245 1).bind fun t246 => (if t246 < 0 then (some false) else (if t246 = t243 then ((laws_toDisk.f kj65 l0_0 l0_1).bind fun bt247 => ((impl_SyncDisk.f kj65 bt247.1 bt247.2).bind fun bt253 => ((laws_eqDisk.f kj65 bt253.1 bt253.2.1 t208 t211).bind fun t261 => (if t261 = true then (laws_FnExactSyncDisk.j2 kj65 t243 (bt253.2.2 != t214) t244 t245) else (laws_FnExactSyncDisk.j2 kj65 t243 true t244 t245))))) else (some false)))) = some r := H
                  have A97 := Aside0.mk A970
                  clear A970
                  replace H := Option.bind_eq_some_iff.mp H
                  obtain ⟨t246, A980, H⟩ := H
                  replace H : (if t246 < 0 then (some false) else (if t246 = t243 then ((laws_toDisk.f kj65 l0_0 l0_1).bind fun bt247 => ((impl_SyncDisk.f kj65 bt247.1 bt247.2).bind fun bt253 => ((laws_eqDisk.f kj65 bt253.1 bt253.2.1 t208 t211).bind fun t261 => (if t261 = true then (laws_FnExactSyncDisk.j2 kj65 t243 (bt253.2.2 != t214) t244 t245) else (laws_FnExactSyncDisk.j2 kj65 t243 true t244 t245))))) else (some false))) = some r := H
                  have A98 := Aside0.mk A980
                  clear A980
                  by_cases c99 : t246 < 0
                  · rw [if_pos c99] at H
                    have c99b0 : decide (t246 < 0) = true := decide_eq_true c99
                    clear c99
                    obtain rfl := Option.some.inj H
                    have hnb100 := NB230_200.out
                    have hnc100 := NB200_230.out
                    have hnb101 := NB230_215.out
                    have hnc101 := NB215_230.out
                    have hnb102 := NB230_222.out
                    have hnc102 := NB222_230.out
                    have hcz103_0 : wc.cell? ⟨gb230, 0, none⟩ = some (.slice Ao37 t223.length co37) := (blk_cell BK230.out 0).trans rfl
                    have hcz103_1 : wc.cell? ⟨gb230, 1, none⟩ = some (.slice Ao42 t226.length co42) := (blk_cell BK230.out 1).trans rfl
                    have hfz103_0 := blk_frozen BK230.out 0
                    have hfz103_1 := blk_frozen BK230.out 1
                    go_wp2_with (first | ((with_reducible refine gate_callee (f := 29) rfl ?_); refine goesL_ (some 64) rfl rfl Try.func29 (by kernel_rfl) rfl #[.agg #[.slice Ao37 t223.length co37, .slice Ao42 t226.length co42], .int .i64 1] rfl (by (try simp only [List.map_toArray, List.map_cons, List.map_nil]); first | done | rfl | (simp only [List.length_drop, List.length_take]; rfl)) ?_; (with_reducible refine (laws_markDisk.calls kj65 (fun k_ => some k_ = (.slice Ao37 t223.length co37 : Value).ownBlock) (.slice Ao37 t223.length co37) t223 (fun k_ => some k_ = (.slice Ao42 t226.length co42 : Value).ownBlock) (.slice Ao42 t226.length co42) t226 1 t243 t244 t245 w _ ?side1 ?side2 ?side3 ?side4 ?side5 A97.out).mono ?_); (case side1 => repeat (first | (with_reducible first | exact HB.out | apply below_alloc | refine below_set ?_ GE200.out | refine below_set ?_ GE215.out | refine below_set ?_ GE222.out | refine below_set ?_ GE230.out) | exact HB.out)); (case side2 => exact Kd.R_tight rfl HO_231000.out); (case side3 => exact fun k_ e_ => (HO_231000.out.1 k_ e_.symm).2.2.2.2); (case side4 => exact Kd.R_tight rfl HO_231001.out); (case side5 => exact fun k_ e_ => (HO_231001.out.1 k_ e_.symm).2.2.2.2); rintro e w104 ⟨rfl, hy0, hy1, hb, hkp⟩; refine ⟨_, rfl, ?_⟩; have n0_ := Aside0.mk (Kd.R_mono (ok' := fun k_ => some k_ ≠ (.slice Ao24 t211.length co24 : Value).ownBlock ∧ some k_ ≠ (.slice Ao28 t240.length co28 : Value).ownBlock ∧ some k_ ≠ (.slice Ao32 t241.length co32 : Value).ownBlock ∧ some k_ ≠ (.slice Ao37 t223.length co37 : Value).ownBlock ∧ some k_ ≠ (.slice Ao42 t226.length co42 : Value).ownBlock) (Kd.R_keptB (HO_216000.out) hkp (fun k_ hk_ hs_ => Or.elim hs_ (fun e_ => (hk_.2.2.2.1) e_) (fun e_ => (hk_.2.2.2.2) e_))) (fun k_ hk_ => ⟨hk_.1.1, hk_.1.2.1, hk_.1.2.2.1, hk_.1.2.2.2.1, hk_.1.2.2.2.2⟩)); have n1_ := Aside0.mk (Kd.R_mono (ok' := fun k_ => some k_ ≠ (.slice Ao21 t208.length co21 : Value).ownBlock ∧ some k_ ≠ (.slice Ao28 t240.length co28 : Value).ownBlock ∧ some k_ ≠ (.slice Ao32 t241.length co32 : Value).ownBlock ∧ some k_ ≠ (.slice Ao37 t223.length co37 : Value).ownBlock ∧ some k_ ≠ (.slice Ao42 t226.length co42 : Value).ownBlock) (Kd.R_keptB (HO_216001.out) hkp (fun k_ hk_ hs_ => Or.elim hs_ (fun e_ => (hk_.2.2.2.1) e_) (fun e_ => (hk_.2.2.2.2) e_))) (fun k_ hk_ => ⟨hk_.1.1, hk_.1.2.1, hk_.1.2.2.1, hk_.1.2.2.2.1, hk_.1.2.2.2.2⟩)); have n2_ := Aside0.mk (Kd.R_mono (ok' := fun k_ => some k_ ≠ (.slice Ao21 t208.length co21 : Value).ownBlock ∧ some k_ ≠ (.slice Ao24 t211.length co24 : Value).ownBlock ∧ some k_ ≠ (.slice Ao32 t241.length co32 : Value).ownBlock ∧ some k_ ≠ (.slice Ao37 t223.length co37 : Value).ownBlock ∧ some k_ ≠ (.slice Ao42 t226.length co42 : Value).ownBlock) (Kd.R_keptB (HO_223000.out) hkp (fun k_ hk_ hs_ => Or.elim hs_ (fun e_ => (hk_.2.2.2.1) e_) (fun e_ => (hk_.2.2.2.2) e_))) (fun k_ hk_ => ⟨hk_.1.1, hk_.1.2.1, hk_.1.2.2.1, hk_.1.2.2.2.1, hk_.1.2.2.2.2⟩)); have n3_ := Aside0.mk (Kd.R_mono (ok' := fun k_ => some k_ ≠ (.slice Ao21 t208.length co21 : Value).ownBlock ∧ some k_ ≠ (.slice Ao24 t211.length co24 : Value).ownBlock ∧ some k_ ≠ (.slice Ao28 t240.length co28 : Value).ownBlock ∧ some k_ ≠ (.slice Ao37 t223.length co37 : Value).ownBlock ∧ some k_ ≠ (.slice Ao42 t226.length co42 : Value).ownBlock) (Kd.R_keptB (HO_223001.out) hkp (fun k_ hk_ hs_ => Or.elim hs_ (fun e_ => (hk_.2.2.2.1) e_) (fun e_ => (hk_.2.2.2.2) e_))) (fun k_ hk_ => ⟨hk_.1.1, hk_.1.2.1, hk_.1.2.2.1, hk_.1.2.2.2.1, hk_.1.2.2.2.2⟩)); have n4_ := Aside0.mk (Kd.R_reok rfl hy0 (fun k_ e_ => HO_231000.out.1 k_ e_)); have n5_ := Aside0.mk (Kd.R_reok rfl hy1 (fun k_ e_ => HO_231001.out.1 k_ e_)); have n6_ := Aside0.mk (blk_kept (by (with_reducible repeat (refine blk_alloc ?_ _)); exact BK200.out) hkp (fun hs_ => Or.elim hs_ (fun e_ => (fun e_ => (Kd.R_ne HO_231000.out BK200.out (by decide)) e_) e_) (fun e_ => (fun e_ => (Kd.R_ne HO_231001.out BK200.out (by decide)) e_) e_))); have n7_ := Aside0.mk (blk_kept (by (with_reducible repeat (refine blk_alloc ?_ _)); exact BK215.out) hkp (fun hs_ => Or.elim hs_ (fun e_ => (fun e_ => (Kd.R_ne HO_231000.out BK215.out (by decide)) e_) e_) (fun e_ => (fun e_ => (Kd.R_ne HO_231001.out BK215.out (by decide)) e_) e_))); have n8_ := Aside0.mk (blk_kept (by (with_reducible repeat (refine blk_alloc ?_ _)); exact BK222.out) hkp (fun hs_ => Or.elim hs_ (fun e_ => (fun e_ => (Kd.R_ne HO_231000.out BK222.out (by decide)) e_) e_) (fun e_ => (fun e_ => (Kd.R_ne HO_231001.out BK222.out (by decide)) e_) e_))); have n9_ := Aside0.mk (blk_kept (by (with_reducible repeat (refine blk_alloc ?_ _)); exact BK230.out) hkp (fun hs_ => Or.elim hs_ (fun e_ => (fun e_ => (Kd.R_ne HO_231000.out BK230.out (by decide)) e_) e_) (fun e_ => (fun e_ => (Kd.R_ne HO_231001.out BK230.out (by decide)) e_) e_))); have n10_ := Aside0.mk (hb); clear HO_216000; clear HO_216001; clear HO_223000; clear HO_223001; clear HO_231000; clear HO_231001; clear BK200; clear BK215; clear BK222; clear BK230; clear HB; have HO_216000 := n0_; have HO_216001 := n1_; have HO_223000 := n2_; have HO_223001 := n3_; have HO_231000 := n4_; have HO_231001 := n5_; have BK200 := n6_; have BK215 := n7_; have BK222 := n8_; have BK230 := n9_; have HB := n10_; clear n0_ n1_ n2_ n3_ n4_ n5_ n6_ n7_ n8_ n9_ n10_; (try clear hb); (try clear hkp); (try clear hy0); (try clear hy1); have hcz105_0 : w104.cell? ⟨gb230, 0, none⟩ = some (.slice Ao37 t223.length co37) := (blk_cell BK230.out 0).trans rfl; have hcz105_1 : w104.cell? ⟨gb230, 1, none⟩ = some (.slice Ao42 t226.length co42) := (blk_cell BK230.out 1).trans rfl; have hfz105_0 := blk_frozen BK230.out 0; have hfz105_1 := blk_frozen BK230.out 1) | ((with_reducible refine gate_callee (f := 30) rfl ?_); refine goesL_ (some 67) rfl rfl Try.func30 (by kernel_rfl) rfl #[.agg #[.slice Ao37 t244.length co37, .slice Ao42 t245.length co42], .int .i64 1] rfl (by (try simp only [List.map_toArray, List.map_cons, List.map_nil]); first | done | (rw [show t244.length = t223.length from (Kd.R_reads' HO_231000.out).1.symm, show t245.length = t226.length from (Kd.R_reads' HO_231001.out).1.symm] <;> rfl) | rfl | (simp only [List.length_drop, List.length_take]; rfl)) ?_; (with_reducible refine (laws_heldDisk.calls kj65 _ _ t244 _ _ t245 1 t246 _ ?side1 ?side2 ?side3 ?side4 A98.out).mono ?_); (case side1 => repeat (first | exact (Kd.R_reads' HO_231000.out).2.2 | (with_reducible refine Kd.C_alloc ?_ _))); (case side2 => rw [show t244.length = t223.length from (Kd.R_reads' HO_231000.out).1.symm]; exact (Kd.R_reads' HO_231000.out).2.1); (case side3 => repeat (first | exact (Kd.R_reads' HO_231001.out).2.2 | (with_reducible refine Kd.C_alloc ?_ _))); (case side4 => rw [show t245.length = t226.length from (Kd.R_reads' HO_231001.out).1.symm]; exact (Kd.R_reads' HO_231001.out).2.1); rintro e w106 ⟨rfl, hb⟩; refine ⟨_, rfl, ?_⟩; have n0_ := Aside0.mk (Kd.R_below (by (with_reducible repeat (first | apply Kd.R_alloc)); exact HO_216000.out) hb); have n1_ := Aside0.mk (Kd.R_below (by (with_reducible repeat (first | apply Kd.R_alloc)); exact HO_216001.out) hb); have n2_ := Aside0.mk (Kd.R_below (by (with_reducible repeat (first | apply Kd.R_alloc)); exact HO_223000.out) hb); have n3_ := Aside0.mk (Kd.R_below (by (with_reducible repeat (first | apply Kd.R_alloc)); exact HO_223001.out) hb); have n4_ := Aside0.mk (Kd.R_below (by (with_reducible repeat (first | apply Kd.R_alloc)); exact HO_231000.out) hb); have n5_ := Aside0.mk (Kd.R_below (by (with_reducible repeat (first | apply Kd.R_alloc)); exact HO_231001.out) hb); have n6_ := Aside0.mk (blk_below (g := gb200) (o := .cells #[.slice A0_0 l0_0.length c0_0, .slice A0_1 l0_1.length c0_1] 38 (0, 0)) (by (with_reducible repeat (refine blk_alloc ?_ _)); exact BK200.out) hb); have n7_ := Aside0.mk (blk_below (g := gb215) (o := .cells #[.slice Ao21 t208.length co21, .slice Ao24 t211.length co24] 40 (0, 0)) (by (with_reducible repeat (refine blk_alloc ?_ _)); exact BK215.out) hb); have n8_ := Aside0.mk (blk_below (g := gb222) (o := .cells #[.slice Ao28 t240.length co28, .slice Ao32 t241.length co32] 40 (0, 0)) (by (with_reducible repeat (refine blk_alloc ?_ _)); exact BK222.out) hb); have n9_ := Aside0.mk (blk_below (g := gb230) (o := .cells #[.slice Ao37 t223.length co37, .slice Ao42 t226.length co42] 40 (0, 0)) (by (with_reducible repeat (refine blk_alloc ?_ _)); exact BK230.out) hb); have n10_ := Aside0.mk (below_step (by repeat (first | (with_reducible first | exact HB.out | apply below_alloc | refine below_set ?_ GE200.out | refine below_set ?_ GE215.out | refine below_set ?_ GE222.out | refine below_set ?_ GE230.out) | exact HB.out)) hb); clear HO_216000; clear HO_216001; clear HO_223000; clear HO_223001; clear HO_231000; clear HO_231001; clear BK200; clear BK215; clear BK222; clear BK230; clear HB; have HO_216000 := n0_; have HO_216001 := n1_; have HO_223000 := n2_; have HO_223001 := n3_; have HO_231000 := n4_; have HO_231001 := n5_; have BK200 := n6_; have BK215 := n7_; have BK222 := n8_; have BK230 := n9_; have HB := n10_; clear n0_ n1_ n2_ n3_ n4_ n5_ n6_ n7_ n8_ n9_ n10_; (try clear hb); (try clear hb2); (try clear hk); (try clear hi)))
                    go_ret
                    exact ⟨by first | rfl | (simp [errW_none, errW_some] <;> rfl) | (simp [*, errW_none, errW_some] <;> rfl), by repeat (first | (with_reducible first | exact HB.out | apply below_alloc | refine below_set ?_ GE200.out | refine below_set ?_ GE215.out | refine below_set ?_ GE222.out | refine below_set ?_ GE230.out) | exact HB.out)⟩
                  · rw [if_neg c99] at H
                    have c99b0 : decide (t246 < 0) = false := decide_eq_false c99
                    clear c99
                    by_cases c107 : t246 = t243
                    · rw [if_pos c107] at H
                      have c107b0 : (t246 == t243) = true := beq_iff_eq.mpr c107
                      have c107b1 : (t246 != t243) = false := bne_eq_false_iff_eq.mpr c107
                      clear c107
                      replace H := Option.bind_eq_some_iff.mp H
                      obtain ⟨⟨t247, t250⟩, A1080, H⟩ := H
                      replace H : ((impl_SyncDisk.f kj65 t247 t250).bind fun bt253 => ((laws_eqDisk.f kj65 bt253.1 bt253.2.1 t208 t211).bind fun t261 => (if t261 = true then (laws_FnExactSyncDisk.j2 kj65 t243 (bt253.2.2 != t214) t244 t245) else (laws_FnExactSyncDisk.j2 kj65 t243 true t244 t245)))) = some r := H
                      have A108 := Aside0.mk A1080
                      clear A1080
                      replace H := Option.bind_eq_some_iff.mp H
                      obtain ⟨⟨t253, t256, t259⟩, A1090, H⟩ := H
                      replace H : ((laws_eqDisk.f kj65 t253 t256 t208 t211).bind fun t261 => (if t261 = true then (laws_FnExactSyncDisk.j2 kj65 t243 (t259 != t214) t244 t245) else (laws_FnExactSyncDisk.j2 kj65 t243 true t244 t245))) = some r := H
                      have A109 := Aside0.mk A1090
                      clear A1090
                      have HC110 := Aside0.mk H
                      clear H
                      have hnb111 := NB230_200.out
                      have hnc111 := NB200_230.out
                      have hnb112 := NB230_215.out
                      have hnc112 := NB215_230.out
                      have hnb113 := NB230_222.out
                      have hnc113 := NB222_230.out
                      have hcz114_0 : wc.cell? ⟨gb230, 0, none⟩ = some (.slice Ao37 t223.length co37) := (blk_cell BK230.out 0).trans rfl
                      have hcz114_1 : wc.cell? ⟨gb230, 1, none⟩ = some (.slice Ao42 t226.length co42) := (blk_cell BK230.out 1).trans rfl
                      have hfz114_0 := blk_frozen BK230.out 0
                      have hfz114_1 := blk_frozen BK230.out 1
                      go_upto_region 25 with (first | ((with_reducible refine gate_callee (f := 29) rfl ?_); refine goesL_ (some 64) rfl rfl Try.func29 (by kernel_rfl) rfl #[.agg #[.slice Ao37 t223.length co37, .slice Ao42 t226.length co42], .int .i64 1] rfl (by (try simp only [List.map_toArray, List.map_cons, List.map_nil]); first | done | rfl | (simp only [List.length_drop, List.length_take]; rfl)) ?_; (with_reducible refine (laws_markDisk.calls kj65 (fun k_ => some k_ = (.slice Ao37 t223.length co37 : Value).ownBlock) (.slice Ao37 t223.length co37) t223 (fun k_ => some k_ = (.slice Ao42 t226.length co42 : Value).ownBlock) (.slice Ao42 t226.length co42) t226 1 t243 t244 t245 w _ ?side1 ?side2 ?side3 ?side4 ?side5 A97.out).mono ?_); (case side1 => repeat (first | (with_reducible first | exact HB.out | apply below_alloc | refine below_set ?_ GE200.out | refine below_set ?_ GE215.out | refine below_set ?_ GE222.out | refine below_set ?_ GE230.out) | exact HB.out)); (case side2 => exact Kd.R_tight rfl HO_231000.out); (case side3 => exact fun k_ e_ => (HO_231000.out.1 k_ e_.symm).2.2.2.2); (case side4 => exact Kd.R_tight rfl HO_231001.out); (case side5 => exact fun k_ e_ => (HO_231001.out.1 k_ e_.symm).2.2.2.2); rintro e w115 ⟨rfl, hy0, hy1, hb, hkp⟩; refine ⟨_, rfl, ?_⟩; have n0_ := Aside0.mk (Kd.R_mono (ok' := fun k_ => some k_ ≠ (.slice Ao24 t211.length co24 : Value).ownBlock ∧ some k_ ≠ (.slice Ao28 t240.length co28 : Value).ownBlock ∧ some k_ ≠ (.slice Ao32 t241.length co32 : Value).ownBlock ∧ some k_ ≠ (.slice Ao37 t223.length co37 : Value).ownBlock ∧ some k_ ≠ (.slice Ao42 t226.length co42 : Value).ownBlock) (Kd.R_keptB (HO_216000.out) hkp (fun k_ hk_ hs_ => Or.elim hs_ (fun e_ => (hk_.2.2.2.1) e_) (fun e_ => (hk_.2.2.2.2) e_))) (fun k_ hk_ => ⟨hk_.1.1, hk_.1.2.1, hk_.1.2.2.1, hk_.1.2.2.2.1, hk_.1.2.2.2.2⟩)); have n1_ := Aside0.mk (Kd.R_mono (ok' := fun k_ => some k_ ≠ (.slice Ao21 t208.length co21 : Value).ownBlock ∧ some k_ ≠ (.slice Ao28 t240.length co28 : Value).ownBlock ∧ some k_ ≠ (.slice Ao32 t241.length co32 : Value).ownBlock ∧ some k_ ≠ (.slice Ao37 t223.length co37 : Value).ownBlock ∧ some k_ ≠ (.slice Ao42 t226.length co42 : Value).ownBlock) (Kd.R_keptB (HO_216001.out) hkp (fun k_ hk_ hs_ => Or.elim hs_ (fun e_ => (hk_.2.2.2.1) e_) (fun e_ => (hk_.2.2.2.2) e_))) (fun k_ hk_ => ⟨hk_.1.1, hk_.1.2.1, hk_.1.2.2.1, hk_.1.2.2.2.1, hk_.1.2.2.2.2⟩)); have n2_ := Aside0.mk (Kd.R_mono (ok' := fun k_ => some k_ ≠ (.slice Ao21 t208.length co21 : Value).ownBlock ∧ some k_ ≠ (.slice Ao24 t211.length co24 : Value).ownBlock ∧ some k_ ≠ (.slice Ao32 t241.length co32 : Value).ownBlock ∧ some k_ ≠ (.slice Ao37 t223.length co37 : Value).ownBlock ∧ some k_ ≠ (.slice Ao42 t226.length co42 : Value).ownBlock) (Kd.R_keptB (HO_223000.out) hkp (fun k_ hk_ hs_ => Or.elim hs_ (fun e_ => (hk_.2.2.2.1) e_) (fun e_ => (hk_.2.2.2.2) e_))) (fun k_ hk_ => ⟨hk_.1.1, hk_.1.2.1, hk_.1.2.2.1, hk_.1.2.2.2.1, hk_.1.2.2.2.2⟩)); have n3_ := Aside0.mk (Kd.R_mono (ok' := fun k_ => some k_ ≠ (.slice Ao21 t208.length co21 : Value).ownBlock ∧ some k_ ≠ (.slice Ao24 t211.length co24 : Value).ownBlock ∧ some k_ ≠ (.slice Ao28 t240.length co28 : Value).ownBlock ∧ some k_ ≠ (.slice Ao37 t223.length co37 : Value).ownBlock ∧ some k_ ≠ (.slice Ao42 t226.length co42 : Value).ownBlock) (Kd.R_keptB (HO_223001.out) hkp (fun k_ hk_ hs_ => Or.elim hs_ (fun e_ => (hk_.2.2.2.1) e_) (fun e_ => (hk_.2.2.2.2) e_))) (fun k_ hk_ => ⟨hk_.1.1, hk_.1.2.1, hk_.1.2.2.1, hk_.1.2.2.2.1, hk_.1.2.2.2.2⟩)); have n4_ := Aside0.mk (Kd.R_reok rfl hy0 (fun k_ e_ => HO_231000.out.1 k_ e_)); have n5_ := Aside0.mk (Kd.R_reok rfl hy1 (fun k_ e_ => HO_231001.out.1 k_ e_)); have n6_ := Aside0.mk (blk_kept (by (with_reducible repeat (refine blk_alloc ?_ _)); exact BK200.out) hkp (fun hs_ => Or.elim hs_ (fun e_ => (fun e_ => (Kd.R_ne HO_231000.out BK200.out (by decide)) e_) e_) (fun e_ => (fun e_ => (Kd.R_ne HO_231001.out BK200.out (by decide)) e_) e_))); have n7_ := Aside0.mk (blk_kept (by (with_reducible repeat (refine blk_alloc ?_ _)); exact BK215.out) hkp (fun hs_ => Or.elim hs_ (fun e_ => (fun e_ => (Kd.R_ne HO_231000.out BK215.out (by decide)) e_) e_) (fun e_ => (fun e_ => (Kd.R_ne HO_231001.out BK215.out (by decide)) e_) e_))); have n8_ := Aside0.mk (blk_kept (by (with_reducible repeat (refine blk_alloc ?_ _)); exact BK222.out) hkp (fun hs_ => Or.elim hs_ (fun e_ => (fun e_ => (Kd.R_ne HO_231000.out BK222.out (by decide)) e_) e_) (fun e_ => (fun e_ => (Kd.R_ne HO_231001.out BK222.out (by decide)) e_) e_))); have n9_ := Aside0.mk (blk_kept (by (with_reducible repeat (refine blk_alloc ?_ _)); exact BK230.out) hkp (fun hs_ => Or.elim hs_ (fun e_ => (fun e_ => (Kd.R_ne HO_231000.out BK230.out (by decide)) e_) e_) (fun e_ => (fun e_ => (Kd.R_ne HO_231001.out BK230.out (by decide)) e_) e_))); have n10_ := Aside0.mk (hb); clear HO_216000; clear HO_216001; clear HO_223000; clear HO_223001; clear HO_231000; clear HO_231001; clear BK200; clear BK215; clear BK222; clear BK230; clear HB; have HO_216000 := n0_; have HO_216001 := n1_; have HO_223000 := n2_; have HO_223001 := n3_; have HO_231000 := n4_; have HO_231001 := n5_; have BK200 := n6_; have BK215 := n7_; have BK222 := n8_; have BK230 := n9_; have HB := n10_; clear n0_ n1_ n2_ n3_ n4_ n5_ n6_ n7_ n8_ n9_ n10_; (try clear hb); (try clear hkp); (try clear hy0); (try clear hy1); have hcz116_0 : w115.cell? ⟨gb230, 0, none⟩ = some (.slice Ao37 t223.length co37) := (blk_cell BK230.out 0).trans rfl; have hcz116_1 : w115.cell? ⟨gb230, 1, none⟩ = some (.slice Ao42 t226.length co42) := (blk_cell BK230.out 1).trans rfl; have hfz116_0 := blk_frozen BK230.out 0; have hfz116_1 := blk_frozen BK230.out 1) | ((with_reducible refine gate_callee (f := 30) rfl ?_); refine goesL_ (some 67) rfl rfl Try.func30 (by kernel_rfl) rfl #[.agg #[.slice Ao37 t244.length co37, .slice Ao42 t245.length co42], .int .i64 1] rfl (by (try simp only [List.map_toArray, List.map_cons, List.map_nil]); first | done | (rw [show t244.length = t223.length from (Kd.R_reads' HO_231000.out).1.symm, show t245.length = t226.length from (Kd.R_reads' HO_231001.out).1.symm] <;> rfl) | rfl | (simp only [List.length_drop, List.length_take]; rfl)) ?_; (with_reducible refine (laws_heldDisk.calls kj65 _ _ t244 _ _ t245 1 t246 _ ?side1 ?side2 ?side3 ?side4 A98.out).mono ?_); (case side1 => repeat (first | exact (Kd.R_reads' HO_231000.out).2.2 | (with_reducible refine Kd.C_alloc ?_ _))); (case side2 => rw [show t244.length = t223.length from (Kd.R_reads' HO_231000.out).1.symm]; exact (Kd.R_reads' HO_231000.out).2.1); (case side3 => repeat (first | exact (Kd.R_reads' HO_231001.out).2.2 | (with_reducible refine Kd.C_alloc ?_ _))); (case side4 => rw [show t245.length = t226.length from (Kd.R_reads' HO_231001.out).1.symm]; exact (Kd.R_reads' HO_231001.out).2.1); rintro e w117 ⟨rfl, hb⟩; refine ⟨_, rfl, ?_⟩; have n0_ := Aside0.mk (Kd.R_below (by (with_reducible repeat (first | apply Kd.R_alloc)); exact HO_216000.out) hb); have n1_ := Aside0.mk (Kd.R_below (by (with_reducible repeat (first | apply Kd.R_alloc)); exact HO_216001.out) hb); have n2_ := Aside0.mk (Kd.R_below (by (with_reducible repeat (first | apply Kd.R_alloc)); exact HO_223000.out) hb); have n3_ := Aside0.mk (Kd.R_below (by (with_reducible repeat (first | apply Kd.R_alloc)); exact HO_223001.out) hb); have n4_ := Aside0.mk (Kd.R_below (by (with_reducible repeat (first | apply Kd.R_alloc)); exact HO_231000.out) hb); have n5_ := Aside0.mk (Kd.R_below (by (with_reducible repeat (first | apply Kd.R_alloc)); exact HO_231001.out) hb); have n6_ := Aside0.mk (blk_below (g := gb200) (o := .cells #[.slice A0_0 l0_0.length c0_0, .slice A0_1 l0_1.length c0_1] 38 (0, 0)) (by (with_reducible repeat (refine blk_alloc ?_ _)); exact BK200.out) hb); have n7_ := Aside0.mk (blk_below (g := gb215) (o := .cells #[.slice Ao21 t208.length co21, .slice Ao24 t211.length co24] 40 (0, 0)) (by (with_reducible repeat (refine blk_alloc ?_ _)); exact BK215.out) hb); have n8_ := Aside0.mk (blk_below (g := gb222) (o := .cells #[.slice Ao28 t240.length co28, .slice Ao32 t241.length co32] 40 (0, 0)) (by (with_reducible repeat (refine blk_alloc ?_ _)); exact BK222.out) hb); have n9_ := Aside0.mk (blk_below (g := gb230) (o := .cells #[.slice Ao37 t223.length co37, .slice Ao42 t226.length co42] 40 (0, 0)) (by (with_reducible repeat (refine blk_alloc ?_ _)); exact BK230.out) hb); have n10_ := Aside0.mk (below_step (by repeat (first | (with_reducible first | exact HB.out | apply below_alloc | refine below_set ?_ GE200.out | refine below_set ?_ GE215.out | refine below_set ?_ GE222.out | refine below_set ?_ GE230.out) | exact HB.out)) hb); clear HO_216000; clear HO_216001; clear HO_223000; clear HO_223001; clear HO_231000; clear HO_231001; clear BK200; clear BK215; clear BK222; clear BK230; clear HB; have HO_216000 := n0_; have HO_216001 := n1_; have HO_223000 := n2_; have HO_223001 := n3_; have HO_231000 := n4_; have HO_231001 := n5_; have BK200 := n6_; have BK215 := n7_; have BK222 := n8_; have BK230 := n9_; have HB := n10_; clear n0_ n1_ n2_ n3_ n4_ n5_ n6_ n7_ n8_ n9_ n10_; (try clear hb); (try clear hb2); (try clear hk); (try clear hi); have hnb118 := NB200_215.out; have hnc118 := NB215_200.out; have hnb119 := NB200_222.out; have hnc119 := NB222_200.out; have hcz120_0 : w117.cell? ⟨gb200, 0, none⟩ = some (.slice A0_0 l0_0.length c0_0) := (blk_cell BK200.out 0).trans rfl; have hcz120_1 : w117.cell? ⟨gb200, 1, none⟩ = some (.slice A0_1 l0_1.length c0_1) := (blk_cell BK200.out 1).trans rfl; have hfz120_0 := blk_frozen BK200.out 0; have hfz120_1 := blk_frozen BK200.out 1) | ((with_reducible refine gate_callee (f := 26) rfl ?_); refine goesL_ (some 75) rfl rfl Try.func26 (by kernel_rfl) rfl #[.agg #[.slice A0_0 l0_0.length c0_0, .slice A0_1 l0_1.length c0_1]] rfl (by (try simp only [List.map_toArray, List.map_cons, List.map_nil]); first | done | rfl | (simp only [List.length_drop, List.length_take]; rfl)) ?_; (with_reducible refine (laws_toDisk.calls kj65 _ _ l0_0 _ _ l0_1 t247 t250 _ ?side1 ?side2 ?side3 ?side4 A108.out).mono ?_); (case side1 => repeat (first | exact (Kd.C_below HR0_0.out HB.out) | (with_reducible refine Kd.C_alloc ?_ _))); (case side2 => exact HC0_0.out); (case side3 => repeat (first | exact (Kd.C_below HR0_1.out HB.out) | (with_reducible refine Kd.C_alloc ?_ _))); (case side4 => exact HC0_1.out); rintro e w121 ⟨v248, v251, rfl, ho0, ho1, hb⟩; refine ⟨_, rfl, ?_⟩; have n0_ := Aside0.mk (Kd.R_mono (Kd.R_told (Kd.R_told (Kd.R_old (by (with_reducible repeat (first | apply Kd.R_alloc)); exact HO_216000.out) hb) (Kd.R_base ho0)) (Kd.R_base ho1)) (fun _ h_ => h_.1)); have n1_ := Aside0.mk (Kd.R_mono (Kd.R_told (Kd.R_told (Kd.R_old (by (with_reducible repeat (first | apply Kd.R_alloc)); exact HO_216001.out) hb) (Kd.R_base ho0)) (Kd.R_base ho1)) (fun _ h_ => h_.1)); have n2_ := Aside0.mk (Kd.R_mono (Kd.R_told (Kd.R_told (Kd.R_old (by (with_reducible repeat (first | apply Kd.R_alloc)); exact HO_223000.out) hb) (Kd.R_base ho0)) (Kd.R_base ho1)) (fun _ h_ => h_.1)); have n3_ := Aside0.mk (Kd.R_mono (Kd.R_told (Kd.R_told (Kd.R_old (by (with_reducible repeat (first | apply Kd.R_alloc)); exact HO_223001.out) hb) (Kd.R_base ho0)) (Kd.R_base ho1)) (fun _ h_ => h_.1)); have n4_ := Aside0.mk (Kd.R_mono (Kd.R_told (Kd.R_told (Kd.R_old (by (with_reducible repeat (first | apply Kd.R_alloc)); exact HO_231000.out) hb) (Kd.R_base ho0)) (Kd.R_base ho1)) (fun _ h_ => h_.1)); have n5_ := Aside0.mk (Kd.R_mono (Kd.R_told (Kd.R_told (Kd.R_old (by (with_reducible repeat (first | apply Kd.R_alloc)); exact HO_231001.out) hb) (Kd.R_base ho0)) (Kd.R_base ho1)) (fun _ h_ => h_.1)); have n6_ := Aside0.mk (Kd.R_lower (Kd.R_new' (Kd.R_new' (Kd.R_new' (Kd.R_new' (Kd.R_new' (Kd.R_new' ho0 (Kd.R_lt (by (with_reducible repeat (first | apply Kd.R_alloc)); exact HO_216000.out))) (Kd.R_lt (by (with_reducible repeat (first | apply Kd.R_alloc)); exact HO_216001.out))) (Kd.R_lt (by (with_reducible repeat (first | apply Kd.R_alloc)); exact HO_223000.out))) (Kd.R_lt (by (with_reducible repeat (first | apply Kd.R_alloc)); exact HO_223001.out))) (Kd.R_lt (by (with_reducible repeat (first | apply Kd.R_alloc)); exact HO_231000.out))) (Kd.R_lt (by (with_reducible repeat (first | apply Kd.R_alloc)); exact HO_231001.out))) (below_size (by repeat (first | (with_reducible first | exact HB.out | apply below_alloc | refine below_set ?_ GE200.out | refine below_set ?_ GE215.out | refine below_set ?_ GE222.out | refine below_set ?_ GE230.out) | exact HB.out)))); have n7_ := Aside0.mk (Kd.R_lower (Kd.R_new' (Kd.R_new' (Kd.R_new' (Kd.R_new' (Kd.R_new' (Kd.R_new' ho1 (Kd.R_lt (by (with_reducible repeat (first | apply Kd.R_alloc)); exact HO_216000.out))) (Kd.R_lt (by (with_reducible repeat (first | apply Kd.R_alloc)); exact HO_216001.out))) (Kd.R_lt (by (with_reducible repeat (first | apply Kd.R_alloc)); exact HO_223000.out))) (Kd.R_lt (by (with_reducible repeat (first | apply Kd.R_alloc)); exact HO_223001.out))) (Kd.R_lt (by (with_reducible repeat (first | apply Kd.R_alloc)); exact HO_231000.out))) (Kd.R_lt (by (with_reducible repeat (first | apply Kd.R_alloc)); exact HO_231001.out))) (below_size (by repeat (first | (with_reducible first | exact HB.out | apply below_alloc | refine below_set ?_ GE200.out | refine below_set ?_ GE215.out | refine below_set ?_ GE222.out | refine below_set ?_ GE230.out) | exact HB.out)))); have n8_ := Aside0.mk (blk_below (g := gb200) (o := .cells #[.slice A0_0 l0_0.length c0_0, .slice A0_1 l0_1.length c0_1] 38 (0, 0)) (by (with_reducible repeat (refine blk_alloc ?_ _)); exact BK200.out) hb); have n9_ := Aside0.mk (blk_below (g := gb215) (o := .cells #[.slice Ao21 t208.length co21, .slice Ao24 t211.length co24] 40 (0, 0)) (by (with_reducible repeat (refine blk_alloc ?_ _)); exact BK215.out) hb); have n10_ := Aside0.mk (blk_below (g := gb222) (o := .cells #[.slice Ao28 t240.length co28, .slice Ao32 t241.length co32] 40 (0, 0)) (by (with_reducible repeat (refine blk_alloc ?_ _)); exact BK222.out) hb); have n11_ := Aside0.mk (blk_below (g := gb230) (o := .cells #[.slice Ao37 t223.length co37, .slice Ao42 t226.length co42] 40 (0, 0)) (by (with_reducible repeat (refine blk_alloc ?_ _)); exact BK230.out) hb); have n12_ := Aside0.mk (below_step (by repeat (first | (with_reducible first | exact HB.out | apply below_alloc | refine below_set ?_ GE200.out | refine below_set ?_ GE215.out | refine below_set ?_ GE222.out | refine below_set ?_ GE230.out) | exact HB.out)) hb); clear HO_216000; clear HO_216001; clear HO_223000; clear HO_223001; clear HO_231000; clear HO_231001; clear BK200; clear BK215; clear BK222; clear BK230; clear HB; have HO_216000 := n0_; have HO_216001 := n1_; have HO_223000 := n2_; have HO_223001 := n3_; have HO_231000 := n4_; have HO_231001 := n5_; have HO249 := n6_; have HO252 := n7_; have BK200 := n8_; have BK215 := n9_; have BK222 := n10_; have BK230 := n11_; have HB := n12_; clear n0_ n1_ n2_ n3_ n4_ n5_ n6_ n7_ n8_ n9_ n10_ n11_ n12_; (try clear hb); (try clear hb2); (try clear hk); (try clear hi); (try clear ho0); (try clear ho1); obtain ⟨Ao122, co122, eo122⟩ := Kd.R_slice HO249.out; subst eo122; obtain ⟨Ao123, co123, eo123⟩ := Kd.R_slice HO252.out; subst eo123) | ((with_reducible refine gate_callee (f := 27) rfl ?_); refine goesL_ (some 76) rfl rfl Try.func27 (by kernel_rfl) rfl #[.agg #[.slice Ao122 t247.length co122, .slice Ao123 t250.length co123]] rfl (by (try simp only [List.map_toArray, List.map_cons, List.map_nil]); first | done | rfl | (simp only [List.length_drop, List.length_take]; rfl)) ?_; (with_reducible refine (impl_SyncDisk.calls kj65 (fun k_ => some k_ = (.slice Ao122 t247.length co122 : Value).ownBlock) _ _ t247 (fun k_ => some k_ = (.slice Ao123 t250.length co123 : Value).ownBlock) _ _ t250 t253 t256 t259 _ ?side1 ?side2 A109.out).mono ?_); (case side1 => exact Kd.R_V (Kd.R_tight rfl (Kd.R_types (Kd.R_types (Kd.R_types (Kd.R_types (HO249.out) BK200.out (by decide)) BK215.out (by decide)) BK222.out (by decide)) BK230.out (by decide)))); (case side2 => exact Kd.R_V (Kd.R_tight rfl (Kd.R_types (Kd.R_types (Kd.R_types (Kd.R_types (HO252.out) BK200.out (by decide)) BK215.out (by decide)) BK222.out (by decide)) BK230.out (by decide)))); rintro e w124 ⟨v254, v257, rfl, ho0, ho1, hb⟩; refine ⟨_, rfl, ?_⟩; have n0_ := Aside0.mk (Kd.R_mono (Kd.R_told (Kd.R_told (Kd.R_old (by (with_reducible repeat (first | apply Kd.R_alloc)); exact HO_216000.out) hb) (Kd.R_base ho0)) (Kd.R_base ho1)) (fun _ h_ => h_.1)); have n1_ := Aside0.mk (Kd.R_mono (Kd.R_told (Kd.R_told (Kd.R_old (by (with_reducible repeat (first | apply Kd.R_alloc)); exact HO_216001.out) hb) (Kd.R_base ho0)) (Kd.R_base ho1)) (fun _ h_ => h_.1)); have n2_ := Aside0.mk (Kd.R_mono (Kd.R_told (Kd.R_told (Kd.R_old (by (with_reducible repeat (first | apply Kd.R_alloc)); exact HO_223000.out) hb) (Kd.R_base ho0)) (Kd.R_base ho1)) (fun _ h_ => h_.1)); have n3_ := Aside0.mk (Kd.R_mono (Kd.R_told (Kd.R_told (Kd.R_old (by (with_reducible repeat (first | apply Kd.R_alloc)); exact HO_223001.out) hb) (Kd.R_base ho0)) (Kd.R_base ho1)) (fun _ h_ => h_.1)); have n4_ := Aside0.mk (Kd.R_mono (Kd.R_told (Kd.R_told (Kd.R_old (by (with_reducible repeat (first | apply Kd.R_alloc)); exact HO_231000.out) hb) (Kd.R_base ho0)) (Kd.R_base ho1)) (fun _ h_ => h_.1)); have n5_ := Aside0.mk (Kd.R_mono (Kd.R_told (Kd.R_told (Kd.R_old (by (with_reducible repeat (first | apply Kd.R_alloc)); exact HO_231001.out) hb) (Kd.R_base ho0)) (Kd.R_base ho1)) (fun _ h_ => h_.1)); have n6_ := Aside0.mk (Kd.R_mono (Kd.R_told (Kd.R_told (Kd.R_old (by (with_reducible repeat (first | apply Kd.R_alloc)); exact HO249.out) hb) (Kd.R_base ho0)) (Kd.R_base ho1)) (fun _ h_ => h_.1)); have n7_ := Aside0.mk (Kd.R_mono (Kd.R_told (Kd.R_told (Kd.R_old (by (with_reducible repeat (first | apply Kd.R_alloc)); exact HO252.out) hb) (Kd.R_base ho0)) (Kd.R_base ho1)) (fun _ h_ => h_.1)); have n8_ := Aside0.mk (Kd.R_lower (Kd.R_new' (Kd.R_new' (Kd.R_new' (Kd.R_new' (Kd.R_new' (Kd.R_new' (Kd.R_new' (Kd.R_new' (Kd.R_mono (ok' := fun k_ => some k_ ≠ (v257 : Value).ownBlock) ho0 (fun _ hk_ => hk_.2)) (Kd.R_lt (by (with_reducible repeat (first | apply Kd.R_alloc)); exact HO_216000.out))) (Kd.R_lt (by (with_reducible repeat (first | apply Kd.R_alloc)); exact HO_216001.out))) (Kd.R_lt (by (with_reducible repeat (first | apply Kd.R_alloc)); exact HO_223000.out))) (Kd.R_lt (by (with_reducible repeat (first | apply Kd.R_alloc)); exact HO_223001.out))) (Kd.R_lt (by (with_reducible repeat (first | apply Kd.R_alloc)); exact HO_231000.out))) (Kd.R_lt (by (with_reducible repeat (first | apply Kd.R_alloc)); exact HO_231001.out))) (Kd.R_lt (by (with_reducible repeat (first | apply Kd.R_alloc)); exact HO249.out))) (Kd.R_lt (by (with_reducible repeat (first | apply Kd.R_alloc)); exact HO252.out))) (below_size (by repeat (first | (with_reducible first | exact HB.out | apply below_alloc | refine below_set ?_ GE200.out | refine below_set ?_ GE215.out | refine below_set ?_ GE222.out | refine below_set ?_ GE230.out) | exact HB.out)))); have n9_ := Aside0.mk (Kd.R_lower (Kd.R_new' (Kd.R_new' (Kd.R_new' (Kd.R_new' (Kd.R_new' (Kd.R_new' (Kd.R_new' (Kd.R_new' (Kd.R_mono (ok' := fun k_ => some k_ ≠ (v254 : Value).ownBlock) ho1 (fun _ hk_ => hk_.2)) (Kd.R_lt (by (with_reducible repeat (first | apply Kd.R_alloc)); exact HO_216000.out))) (Kd.R_lt (by (with_reducible repeat (first | apply Kd.R_alloc)); exact HO_216001.out))) (Kd.R_lt (by (with_reducible repeat (first | apply Kd.R_alloc)); exact HO_223000.out))) (Kd.R_lt (by (with_reducible repeat (first | apply Kd.R_alloc)); exact HO_223001.out))) (Kd.R_lt (by (with_reducible repeat (first | apply Kd.R_alloc)); exact HO_231000.out))) (Kd.R_lt (by (with_reducible repeat (first | apply Kd.R_alloc)); exact HO_231001.out))) (Kd.R_lt (by (with_reducible repeat (first | apply Kd.R_alloc)); exact HO249.out))) (Kd.R_lt (by (with_reducible repeat (first | apply Kd.R_alloc)); exact HO252.out))) (below_size (by repeat (first | (with_reducible first | exact HB.out | apply below_alloc | refine below_set ?_ GE200.out | refine below_set ?_ GE215.out | refine below_set ?_ GE222.out | refine below_set ?_ GE230.out) | exact HB.out)))); have n10_ := Aside0.mk (blk_below (g := gb200) (o := .cells #[.slice A0_0 l0_0.length c0_0, .slice A0_1 l0_1.length c0_1] 38 (0, 0)) (by (with_reducible repeat (refine blk_alloc ?_ _)); exact BK200.out) hb); have n11_ := Aside0.mk (blk_below (g := gb215) (o := .cells #[.slice Ao21 t208.length co21, .slice Ao24 t211.length co24] 40 (0, 0)) (by (with_reducible repeat (refine blk_alloc ?_ _)); exact BK215.out) hb); have n12_ := Aside0.mk (blk_below (g := gb222) (o := .cells #[.slice Ao28 t240.length co28, .slice Ao32 t241.length co32] 40 (0, 0)) (by (with_reducible repeat (refine blk_alloc ?_ _)); exact BK222.out) hb); have n13_ := Aside0.mk (blk_below (g := gb230) (o := .cells #[.slice Ao37 t223.length co37, .slice Ao42 t226.length co42] 40 (0, 0)) (by (with_reducible repeat (refine blk_alloc ?_ _)); exact BK230.out) hb); have n14_ := Aside0.mk (below_step (by repeat (first | (with_reducible first | exact HB.out | apply below_alloc | refine below_set ?_ GE200.out | refine below_set ?_ GE215.out | refine below_set ?_ GE222.out | refine below_set ?_ GE230.out) | exact HB.out)) hb); clear HO_216000; clear HO_216001; clear HO_223000; clear HO_223001; clear HO_231000; clear HO_231001; clear HO249; clear HO252; clear BK200; clear BK215; clear BK222; clear BK230; clear HB; have HO_216000 := n0_; have HO_216001 := n1_; have HO_223000 := n2_; have HO_223001 := n3_; have HO_231000 := n4_; have HO_231001 := n5_; have HO249 := n6_; have HO252 := n7_; have HO255 := n8_; have HO258 := n9_; have BK200 := n10_; have BK215 := n11_; have BK222 := n12_; have BK230 := n13_; have HB := n14_; clear n0_ n1_ n2_ n3_ n4_ n5_ n6_ n7_ n8_ n9_ n10_ n11_ n12_ n13_ n14_; (try clear hb); (try clear hb2); (try clear hk); (try clear hi); (try clear ho0); (try clear ho1)) | ((with_reducible refine gate_dst (N := 12) rfl ?_); refine box_event ?hg (N := 12) ?hd (cs := #[.slice none 0 0, .slice none 0 0]) (t := 40) ?hr ?_; (case hd => rfl); (case hg => rfl); (case hr => first | (go_simp; done) | (go_simp; rfl)); intro gb260 hg w125 hbox hb; have n0_ := Aside0.mk (Kd.R_below (by (with_reducible repeat (first | apply Kd.R_alloc)); exact HO_216000.out) hb); have n1_ := Aside0.mk (Kd.R_below (by (with_reducible repeat (first | apply Kd.R_alloc)); exact HO_216001.out) hb); have n2_ := Aside0.mk (Kd.R_below (by (with_reducible repeat (first | apply Kd.R_alloc)); exact HO_223000.out) hb); have n3_ := Aside0.mk (Kd.R_below (by (with_reducible repeat (first | apply Kd.R_alloc)); exact HO_223001.out) hb); have n4_ := Aside0.mk (Kd.R_below (by (with_reducible repeat (first | apply Kd.R_alloc)); exact HO_231000.out) hb); have n5_ := Aside0.mk (Kd.R_below (by (with_reducible repeat (first | apply Kd.R_alloc)); exact HO_231001.out) hb); have n6_ := Aside0.mk (Kd.R_below (by (with_reducible repeat (first | apply Kd.R_alloc)); exact HO249.out) hb); have n7_ := Aside0.mk (Kd.R_below (by (with_reducible repeat (first | apply Kd.R_alloc)); exact HO252.out) hb); have n8_ := Aside0.mk (Kd.R_below (by (with_reducible repeat (first | apply Kd.R_alloc)); exact HO255.out) hb); have n9_ := Aside0.mk (Kd.R_below (by (with_reducible repeat (first | apply Kd.R_alloc)); exact HO258.out) hb); have n10_ := Aside0.mk (blk_below (g := gb200) (o := .cells #[.slice A0_0 l0_0.length c0_0, .slice A0_1 l0_1.length c0_1] 38 (0, 0)) (by (with_reducible repeat (refine blk_alloc ?_ _)); exact BK200.out) hb); have n11_ := Aside0.mk (blk_below (g := gb215) (o := .cells #[.slice Ao21 t208.length co21, .slice Ao24 t211.length co24] 40 (0, 0)) (by (with_reducible repeat (refine blk_alloc ?_ _)); exact BK215.out) hb); have n12_ := Aside0.mk (blk_below (g := gb222) (o := .cells #[.slice Ao28 t240.length co28, .slice Ao32 t241.length co32] 40 (0, 0)) (by (with_reducible repeat (refine blk_alloc ?_ _)); exact BK222.out) hb); have n13_ := Aside0.mk (blk_below (g := gb230) (o := .cells #[.slice Ao37 t223.length co37, .slice Ao42 t226.length co42] 40 (0, 0)) (by (with_reducible repeat (refine blk_alloc ?_ _)); exact BK230.out) hb); have n14_ := Aside0.mk (below_step (by repeat (first | (with_reducible first | exact HB.out | apply below_alloc | refine below_set ?_ GE200.out | refine below_set ?_ GE215.out | refine below_set ?_ GE222.out | refine below_set ?_ GE230.out) | exact HB.out)) hb); have n15_ := Aside0.mk (hbox); have n16_ := Aside0.mk ((by rw [hg]; exact (below_size (by repeat (first | (with_reducible first | exact HB.out | apply below_alloc | refine below_set ?_ GE200.out | refine below_set ?_ GE215.out | refine below_set ?_ GE222.out | refine below_set ?_ GE230.out) | exact HB.out))) : w.heap.size ≤ gb260)); have n17_ := Aside0.mk ((by rw [hg]; exact (below_size (by repeat (first | (with_reducible first | exact HB.out | apply below_alloc | refine below_set ?_ GE200.out | refine below_set ?_ GE215.out | refine below_set ?_ GE222.out | refine below_set ?_ GE230.out) | exact HB.out))) : w.heap.size ≤ gb260)); have n18_ := Aside0.mk ((by rw [hg]; exact Nat.ne_of_lt (blk_lt (g := gb200) (o := .cells #[.slice A0_0 l0_0.length c0_0, .slice A0_1 l0_1.length c0_1] 38 (0, 0)) (by (with_reducible repeat (refine blk_alloc ?_ _)); exact BK200.out)) : gb200 ≠ gb260)); have n19_ := Aside0.mk ((by rw [hg]; exact Nat.ne_of_gt (blk_lt (g := gb200) (o := .cells #[.slice A0_0 l0_0.length c0_0, .slice A0_1 l0_1.length c0_1] 38 (0, 0)) (by (with_reducible repeat (refine blk_alloc ?_ _)); exact BK200.out)) : gb260 ≠ gb200)); have n20_ := Aside0.mk ((by rw [hg]; exact Nat.ne_of_lt (blk_lt (g := gb215) (o := .cells #[.slice Ao21 t208.length co21, .slice Ao24 t211.length co24] 40 (0, 0)) (by (with_reducible repeat (refine blk_alloc ?_ _)); exact BK215.out)) : gb215 ≠ gb260)); have n21_ := Aside0.mk ((by rw [hg]; exact Nat.ne_of_gt (blk_lt (g := gb215) (o := .cells #[.slice Ao21 t208.length co21, .slice Ao24 t211.length co24] 40 (0, 0)) (by (with_reducible repeat (refine blk_alloc ?_ _)); exact BK215.out)) : gb260 ≠ gb215)); have n22_ := Aside0.mk ((by rw [hg]; exact Nat.ne_of_lt (blk_lt (g := gb222) (o := .cells #[.slice Ao28 t240.length co28, .slice Ao32 t241.length co32] 40 (0, 0)) (by (with_reducible repeat (refine blk_alloc ?_ _)); exact BK222.out)) : gb222 ≠ gb260)); have n23_ := Aside0.mk ((by rw [hg]; exact Nat.ne_of_gt (blk_lt (g := gb222) (o := .cells #[.slice Ao28 t240.length co28, .slice Ao32 t241.length co32] 40 (0, 0)) (by (with_reducible repeat (refine blk_alloc ?_ _)); exact BK222.out)) : gb260 ≠ gb222)); have n24_ := Aside0.mk ((by rw [hg]; exact Nat.ne_of_lt (blk_lt (g := gb230) (o := .cells #[.slice Ao37 t223.length co37, .slice Ao42 t226.length co42] 40 (0, 0)) (by (with_reducible repeat (refine blk_alloc ?_ _)); exact BK230.out)) : gb230 ≠ gb260)); have n25_ := Aside0.mk ((by rw [hg]; exact Nat.ne_of_gt (blk_lt (g := gb230) (o := .cells #[.slice Ao37 t223.length co37, .slice Ao42 t226.length co42] 40 (0, 0)) (by (with_reducible repeat (refine blk_alloc ?_ _)); exact BK230.out)) : gb260 ≠ gb230)); clear HO_216000; clear HO_216001; clear HO_223000; clear HO_223001; clear HO_231000; clear HO_231001; clear HO249; clear HO252; clear HO255; clear HO258; clear BK200; clear BK215; clear BK222; clear BK230; clear HB; have HO_216000 := n0_; have HO_216001 := n1_; have HO_223000 := n2_; have HO_223001 := n3_; have HO_231000 := n4_; have HO_231001 := n5_; have HO249 := n6_; have HO252 := n7_; have HO255 := n8_; have HO258 := n9_; have BK200 := n10_; have BK215 := n11_; have BK222 := n12_; have BK230 := n13_; have HB := n14_; have BK260 := n15_; have GW260 := n16_; have GE260 := n17_; have NB200_260 := n18_; have NB260_200 := n19_; have NB215_260 := n20_; have NB260_215 := n21_; have NB222_260 := n22_; have NB260_222 := n23_; have NB230_260 := n24_; have NB260_230 := n25_; clear n0_ n1_ n2_ n3_ n4_ n5_ n6_ n7_ n8_ n9_ n10_ n11_ n12_ n13_ n14_ n15_ n16_ n17_ n18_ n19_ n20_ n21_ n22_ n23_ n24_ n25_; clear hb hbox hg; obtain ⟨Ao126, co126, eo126⟩ := Kd.R_slice HO255.out; subst eo126; have hnb127 := NB260_200.out; have hnc127 := NB200_260.out; have hnb128 := NB260_215.out; have hnc128 := NB215_260.out; have hnb129 := NB260_222.out; have hnc129 := NB222_260.out; have hnb130 := NB260_230.out; have hnc130 := NB230_260.out; have hcz131_0 : w125.cell? ⟨gb260, 0, none⟩ = some (.slice none 0 0) := (blk_cell BK260.out 0).trans rfl; have hcz131_1 : w125.cell? ⟨gb260, 1, none⟩ = some (.slice none 0 0) := (blk_cell BK260.out 1).trans rfl; have hfz131_0 := blk_frozen BK260.out 0; have hfz131_1 := blk_frozen BK260.out 1; obtain ⟨Ao132, co132, eo132⟩ := Kd.R_slice HO258.out; subst eo132))
                      (try simp only [Act.put, List.setIfInBounds_toArray, List.set_cons_zero, List.set_cons_succ])
                      go_cut [87] (fun v87 wc => ∃ (kq : Nat) (x87_109 : Bool), v87 = .bool x87_109 ∧ Aside0 (laws_FnExactSyncDisk.j2 kq t243 x87_109 t244 t245 = some r) ∧ Aside0 (kq ≤ kj65) ∧ Aside0 (Kd.R Kd.string 9 wc w.heap.size (fun k_ => some k_ ≠ ((.slice Ao24 t211.length co24) : Value).ownBlock ∧ some k_ ≠ ((.slice Ao28 t240.length co28) : Value).ownBlock ∧ some k_ ≠ ((.slice Ao32 t241.length co32) : Value).ownBlock ∧ some k_ ≠ ((.slice Ao37 t223.length co37) : Value).ownBlock ∧ some k_ ≠ ((.slice Ao42 t226.length co42) : Value).ownBlock ∧ some k_ ≠ ((.slice Ao126 t253.length co126) : Value).ownBlock ∧ some k_ ≠ ((.slice Ao132 t256.length co132) : Value).ownBlock) (.slice Ao21 t208.length co21) t208) ∧ Aside0 (Kd.R Kd.string 9 wc w.heap.size (fun k_ => some k_ ≠ ((.slice Ao21 t208.length co21) : Value).ownBlock ∧ some k_ ≠ ((.slice Ao28 t240.length co28) : Value).ownBlock ∧ some k_ ≠ ((.slice Ao32 t241.length co32) : Value).ownBlock ∧ some k_ ≠ ((.slice Ao37 t223.length co37) : Value).ownBlock ∧ some k_ ≠ ((.slice Ao42 t226.length co42) : Value).ownBlock ∧ some k_ ≠ ((.slice Ao126 t253.length co126) : Value).ownBlock ∧ some k_ ≠ ((.slice Ao132 t256.length co132) : Value).ownBlock) (.slice Ao24 t211.length co24) t211) ∧ Aside0 (Kd.R Kd.string 9 wc w.heap.size (fun k_ => some k_ ≠ ((.slice Ao21 t208.length co21) : Value).ownBlock ∧ some k_ ≠ ((.slice Ao24 t211.length co24) : Value).ownBlock ∧ some k_ ≠ ((.slice Ao32 t241.length co32) : Value).ownBlock ∧ some k_ ≠ ((.slice Ao37 t223.length co37) : Value).ownBlock ∧ some k_ ≠ ((.slice Ao42 t226.length co42) : Value).ownBlock ∧ some k_ ≠ ((.slice Ao126 t253.length co126) : Value).ownBlock ∧ some k_ ≠ ((.slice Ao132 t256.length co132) : Value).ownBlock) (.slice Ao28 t240.length co28) t240) ∧ Aside0 (Kd.R Kd.string 9 wc w.heap.size (fun k_ => some k_ ≠ ((.slice Ao21 t208.length co21) : Value).ownBlock ∧ some k_ ≠ ((.slice Ao24 t211.length co24) : Value).ownBlock ∧ some k_ ≠ ((.slice Ao28 t240.length co28) : Value).ownBlock ∧ some k_ ≠ ((.slice Ao37 t223.length co37) : Value).ownBlock ∧ some k_ ≠ ((.slice Ao42 t226.length co42) : Value).ownBlock ∧ some k_ ≠ ((.slice Ao126 t253.length co126) : Value).ownBlock ∧ some k_ ≠ ((.slice Ao132 t256.length co132) : Value).ownBlock) (.slice Ao32 t241.length co32) t241) ∧ Aside0 (Kd.R Kd.string 9 wc w.heap.size (fun k_ => some k_ ≠ ((.slice Ao21 t208.length co21) : Value).ownBlock ∧ some k_ ≠ ((.slice Ao24 t211.length co24) : Value).ownBlock ∧ some k_ ≠ ((.slice Ao28 t240.length co28) : Value).ownBlock ∧ some k_ ≠ ((.slice Ao32 t241.length co32) : Value).ownBlock ∧ some k_ ≠ ((.slice Ao42 t226.length co42) : Value).ownBlock ∧ some k_ ≠ ((.slice Ao126 t253.length co126) : Value).ownBlock ∧ some k_ ≠ ((.slice Ao132 t256.length co132) : Value).ownBlock) (.slice Ao37 t223.length co37) t244) ∧ Aside0 (Kd.R Kd.string 9 wc w.heap.size (fun k_ => some k_ ≠ ((.slice Ao21 t208.length co21) : Value).ownBlock ∧ some k_ ≠ ((.slice Ao24 t211.length co24) : Value).ownBlock ∧ some k_ ≠ ((.slice Ao28 t240.length co28) : Value).ownBlock ∧ some k_ ≠ ((.slice Ao32 t241.length co32) : Value).ownBlock ∧ some k_ ≠ ((.slice Ao37 t223.length co37) : Value).ownBlock ∧ some k_ ≠ ((.slice Ao126 t253.length co126) : Value).ownBlock ∧ some k_ ≠ ((.slice Ao132 t256.length co132) : Value).ownBlock) (.slice Ao42 t226.length co42) t245) ∧ Aside0 (Kd.R Kd.string 9 wc w.heap.size (fun k_ => some k_ ≠ ((.slice Ao21 t208.length co21) : Value).ownBlock ∧ some k_ ≠ ((.slice Ao24 t211.length co24) : Value).ownBlock ∧ some k_ ≠ ((.slice Ao28 t240.length co28) : Value).ownBlock ∧ some k_ ≠ ((.slice Ao32 t241.length co32) : Value).ownBlock ∧ some k_ ≠ ((.slice Ao37 t223.length co37) : Value).ownBlock ∧ some k_ ≠ ((.slice Ao42 t226.length co42) : Value).ownBlock ∧ some k_ ≠ ((.slice Ao132 t256.length co132) : Value).ownBlock) (.slice Ao126 t253.length co126) t253) ∧ Aside0 (Kd.R Kd.string 9 wc w.heap.size (fun k_ => some k_ ≠ ((.slice Ao21 t208.length co21) : Value).ownBlock ∧ some k_ ≠ ((.slice Ao24 t211.length co24) : Value).ownBlock ∧ some k_ ≠ ((.slice Ao28 t240.length co28) : Value).ownBlock ∧ some k_ ≠ ((.slice Ao32 t241.length co32) : Value).ownBlock ∧ some k_ ≠ ((.slice Ao37 t223.length co37) : Value).ownBlock ∧ some k_ ≠ ((.slice Ao42 t226.length co42) : Value).ownBlock ∧ some k_ ≠ ((.slice Ao126 t253.length co126) : Value).ownBlock) (.slice Ao132 t256.length co132) t256) ∧ Aside0 (wc.heap[gb200]? = some (.cells #[(.slice A0_0 l0_0.length c0_0), (.slice A0_1 l0_1.length c0_1)] 38 (0, 0))) ∧ Aside0 (wc.heap[gb215]? = some (.cells #[(.slice Ao21 t208.length co21), (.slice Ao24 t211.length co24)] 40 (0, 0))) ∧ Aside0 (wc.heap[gb222]? = some (.cells #[(.slice Ao28 t240.length co28), (.slice Ao32 t241.length co32)] 40 (0, 0))) ∧ Aside0 (wc.heap[gb230]? = some (.cells #[(.slice Ao37 t223.length co37), (.slice Ao42 t226.length co42)] 40 (0, 0))) ∧ Aside0 (wc.heap[gb260]? = some (.cells #[(.slice Ao126 t253.length co126), (.slice Ao132 t256.length co132)] 40 (0, 0))) ∧ Aside0 (Below w.heap.size w wc))
                      case first =>
                        have H := HC110.out
                        clear HC110
                        replace H := Option.bind_eq_some_iff.mp H
                        obtain ⟨t261, A1330, H⟩ := H
                        replace H : (if t261 = true then (laws_FnExactSyncDisk.j2 kj65 t243 (t259 != t214) t244 t245) else (laws_FnExactSyncDisk.j2 kj65 t243 true t244 t245)) = some r := H
                        have A133 := Aside0.mk A1330
                        clear A1330
                        by_cases c134 : t261 = true
                        · subst c134
                          have H1 : (laws_FnExactSyncDisk.j2 kj65 t243 (t259 != t214) t244 t245) = some r := by rw [if_pos rfl] at H; exact H
                          clear H
                          have H := H1
                          clear H1
                          have H' := Aside0.mk H
                          clear H
                          have hnb135 := NB260_200.out
                          have hnc135 := NB200_260.out
                          have hnb136 := NB260_215.out
                          have hnc136 := NB215_260.out
                          have hnb137 := NB260_222.out
                          have hnc137 := NB222_260.out
                          have hnb138 := NB260_230.out
                          have hnc138 := NB230_260.out
                          have hcz139_0 : w125.cell? ⟨gb260, 0, none⟩ = some (.slice none 0 0) := (blk_cell BK260.out 0).trans rfl
                          have hcz139_1 : w125.cell? ⟨gb260, 1, none⟩ = some (.slice none 0 0) := (blk_cell BK260.out 1).trans rfl
                          have hfz139_0 := blk_frozen BK260.out 0
                          have hfz139_1 := blk_frozen BK260.out 1
                          have hnb140 := NB215_200.out
                          have hnc140 := NB200_215.out
                          have hnb141 := NB215_222.out
                          have hnc141 := NB222_215.out
                          have hnb142 := NB215_230.out
                          have hnc142 := NB230_215.out
                          have hcz143_0 : w125.cell? ⟨gb215, 0, none⟩ = some (.slice Ao21 t208.length co21) := (blk_cell BK215.out 0).trans rfl
                          have hcz143_1 : w125.cell? ⟨gb215, 1, none⟩ = some (.slice Ao24 t211.length co24) := (blk_cell BK215.out 1).trans rfl
                          have hfz143_0 := blk_frozen BK215.out 0
                          have hfz143_1 := blk_frozen BK215.out 1
                          go_wp2_with (first | ((with_reducible refine gate_callee (f := 28) rfl ?_); refine goesL_ (some 81) rfl rfl Try.func28 (by kernel_rfl) rfl #[.agg #[.slice Ao126 t253.length co126, .slice Ao132 t256.length co132], .agg #[.slice Ao21 t208.length co21, .slice Ao24 t211.length co24]] rfl (by (try simp only [List.map_toArray, List.map_cons, List.map_nil]); first | done | rfl | (simp only [List.length_drop, List.length_take]; rfl)) ?_; (with_reducible refine (laws_eqDisk.calls kj65 _ _ t253 _ _ t256 _ _ t208 _ _ t211 true _ ?side1 ?side2 ?side3 ?side4 ?side5 ?side6 ?side7 ?side8 A133.out).mono ?_); (case side1 => refine (Kd.R_reads' (e := 9) (base := w.heap.size) (ok := fun k_ => ((((((((some k_ ≠ (.slice Ao132 t256.length co132 : Value).ownBlock ∧ some k_ ≠ (.slice Ao21 t208.length co21 : Value).ownBlock) ∧ some k_ ≠ (.slice Ao24 t211.length co24 : Value).ownBlock) ∧ some k_ ≠ (.slice Ao28 t240.length co28 : Value).ownBlock) ∧ some k_ ≠ (.slice Ao32 t241.length co32 : Value).ownBlock) ∧ some k_ ≠ (.slice Ao37 t223.length co37 : Value).ownBlock) ∧ some k_ ≠ (.slice Ao42 t226.length co42 : Value).ownBlock) ∧ some k_ ≠ (.slice Ao122 t247.length co122 : Value).ownBlock) ∧ some k_ ≠ (.slice Ao123 t250.length co123 : Value).ownBlock)) (n := t253.length) (c := co126) ?_).2.2; exact (by (with_reducible repeat (first | apply Kd.R_alloc)); exact (Kd.R_mono (Kd.R_far (p := ⟨gb260, 1, none⟩) (Kd.R_far (p := ⟨gb260, 0, none⟩) (Kd.R_types HO255.out BK260.out (by decide)) (fun _ hk => hk.2) (.slice Ao126 t253.length co126)) (fun _ hk => hk.2) (.slice Ao132 t256.length co132)) (fun _ h_ => h_.1)))); (case side2 => exact (Kd.R_reads' HO255.out).2.1); (case side3 => refine (Kd.R_reads' (e := 9) (base := w.heap.size) (ok := fun k_ => ((((((((some k_ ≠ (.slice Ao126 t253.length co126 : Value).ownBlock ∧ some k_ ≠ (.slice Ao21 t208.length co21 : Value).ownBlock) ∧ some k_ ≠ (.slice Ao24 t211.length co24 : Value).ownBlock) ∧ some k_ ≠ (.slice Ao28 t240.length co28 : Value).ownBlock) ∧ some k_ ≠ (.slice Ao32 t241.length co32 : Value).ownBlock) ∧ some k_ ≠ (.slice Ao37 t223.length co37 : Value).ownBlock) ∧ some k_ ≠ (.slice Ao42 t226.length co42 : Value).ownBlock) ∧ some k_ ≠ (.slice Ao122 t247.length co122 : Value).ownBlock) ∧ some k_ ≠ (.slice Ao123 t250.length co123 : Value).ownBlock)) (n := t256.length) (c := co132) ?_).2.2; exact (by (with_reducible repeat (first | apply Kd.R_alloc)); exact (Kd.R_mono (Kd.R_far (p := ⟨gb260, 1, none⟩) (Kd.R_far (p := ⟨gb260, 0, none⟩) (Kd.R_types HO258.out BK260.out (by decide)) (fun _ hk => hk.2) (.slice Ao126 t253.length co126)) (fun _ hk => hk.2) (.slice Ao132 t256.length co132)) (fun _ h_ => h_.1)))); (case side4 => exact (Kd.R_reads' HO258.out).2.1); (case side5 => refine (Kd.R_reads' (e := 9) (base := w.heap.size) (ok := fun k_ => (((((some k_ ≠ (.slice Ao24 t211.length co24 : Value).ownBlock ∧ (some k_ ≠ (.slice Ao28 t240.length co28 : Value).ownBlock ∧ (some k_ ≠ (.slice Ao32 t241.length co32 : Value).ownBlock ∧ (some k_ ≠ (.slice Ao37 t223.length co37 : Value).ownBlock ∧ some k_ ≠ (.slice Ao42 t226.length co42 : Value).ownBlock)))) ∧ some k_ ≠ (.slice Ao122 t247.length co122 : Value).ownBlock) ∧ some k_ ≠ (.slice Ao123 t250.length co123 : Value).ownBlock) ∧ some k_ ≠ (.slice Ao126 t253.length co126 : Value).ownBlock) ∧ some k_ ≠ (.slice Ao132 t256.length co132 : Value).ownBlock)) (n := t208.length) (c := co21) ?_).2.2; exact (by (with_reducible repeat (first | apply Kd.R_alloc)); exact (Kd.R_mono (Kd.R_far (p := ⟨gb260, 1, none⟩) (Kd.R_far (p := ⟨gb260, 0, none⟩) (Kd.R_types HO_216000.out BK260.out (by decide)) (fun _ hk => hk.2) (.slice Ao126 t253.length co126)) (fun _ hk => hk.2) (.slice Ao132 t256.length co132)) (fun _ h_ => h_.1)))); (case side6 => exact (Kd.R_reads' HO_216000.out).2.1); (case side7 => refine (Kd.R_reads' (e := 9) (base := w.heap.size) (ok := fun k_ => (((((some k_ ≠ (.slice Ao21 t208.length co21 : Value).ownBlock ∧ (some k_ ≠ (.slice Ao28 t240.length co28 : Value).ownBlock ∧ (some k_ ≠ (.slice Ao32 t241.length co32 : Value).ownBlock ∧ (some k_ ≠ (.slice Ao37 t223.length co37 : Value).ownBlock ∧ some k_ ≠ (.slice Ao42 t226.length co42 : Value).ownBlock)))) ∧ some k_ ≠ (.slice Ao122 t247.length co122 : Value).ownBlock) ∧ some k_ ≠ (.slice Ao123 t250.length co123 : Value).ownBlock) ∧ some k_ ≠ (.slice Ao126 t253.length co126 : Value).ownBlock) ∧ some k_ ≠ (.slice Ao132 t256.length co132 : Value).ownBlock)) (n := t211.length) (c := co24) ?_).2.2; exact (by (with_reducible repeat (first | apply Kd.R_alloc)); exact (Kd.R_mono (Kd.R_far (p := ⟨gb260, 1, none⟩) (Kd.R_far (p := ⟨gb260, 0, none⟩) (Kd.R_types HO_216001.out BK260.out (by decide)) (fun _ hk => hk.2) (.slice Ao126 t253.length co126)) (fun _ hk => hk.2) (.slice Ao132 t256.length co132)) (fun _ h_ => h_.1)))); (case side8 => exact (Kd.R_reads' HO_216001.out).2.1); rintro e w144 ⟨rfl, hb⟩; refine ⟨_, rfl, ?_⟩; have n0_ := Aside0.mk (Kd.R_below (by (with_reducible repeat (first | apply Kd.R_alloc)); exact (Kd.R_mono (Kd.R_far (p := ⟨gb260, 1, none⟩) (Kd.R_far (p := ⟨gb260, 0, none⟩) (Kd.R_types HO_216000.out BK260.out (by decide)) (fun _ hk => hk.2) (.slice Ao126 t253.length co126)) (fun _ hk => hk.2) (.slice Ao132 t256.length co132)) (fun _ h_ => h_.1))) hb); have n1_ := Aside0.mk (Kd.R_below (by (with_reducible repeat (first | apply Kd.R_alloc)); exact (Kd.R_mono (Kd.R_far (p := ⟨gb260, 1, none⟩) (Kd.R_far (p := ⟨gb260, 0, none⟩) (Kd.R_types HO_216001.out BK260.out (by decide)) (fun _ hk => hk.2) (.slice Ao126 t253.length co126)) (fun _ hk => hk.2) (.slice Ao132 t256.length co132)) (fun _ h_ => h_.1))) hb); have n2_ := Aside0.mk (Kd.R_below (by (with_reducible repeat (first | apply Kd.R_alloc)); exact (Kd.R_mono (Kd.R_far (p := ⟨gb260, 1, none⟩) (Kd.R_far (p := ⟨gb260, 0, none⟩) (Kd.R_types HO_223000.out BK260.out (by decide)) (fun _ hk => hk.2) (.slice Ao126 t253.length co126)) (fun _ hk => hk.2) (.slice Ao132 t256.length co132)) (fun _ h_ => h_.1))) hb); have n3_ := Aside0.mk (Kd.R_below (by (with_reducible repeat (first | apply Kd.R_alloc)); exact (Kd.R_mono (Kd.R_far (p := ⟨gb260, 1, none⟩) (Kd.R_far (p := ⟨gb260, 0, none⟩) (Kd.R_types HO_223001.out BK260.out (by decide)) (fun _ hk => hk.2) (.slice Ao126 t253.length co126)) (fun _ hk => hk.2) (.slice Ao132 t256.length co132)) (fun _ h_ => h_.1))) hb); have n4_ := Aside0.mk (Kd.R_below (by (with_reducible repeat (first | apply Kd.R_alloc)); exact (Kd.R_mono (Kd.R_far (p := ⟨gb260, 1, none⟩) (Kd.R_far (p := ⟨gb260, 0, none⟩) (Kd.R_types HO_231000.out BK260.out (by decide)) (fun _ hk => hk.2) (.slice Ao126 t253.length co126)) (fun _ hk => hk.2) (.slice Ao132 t256.length co132)) (fun _ h_ => h_.1))) hb); have n5_ := Aside0.mk (Kd.R_below (by (with_reducible repeat (first | apply Kd.R_alloc)); exact (Kd.R_mono (Kd.R_far (p := ⟨gb260, 1, none⟩) (Kd.R_far (p := ⟨gb260, 0, none⟩) (Kd.R_types HO_231001.out BK260.out (by decide)) (fun _ hk => hk.2) (.slice Ao126 t253.length co126)) (fun _ hk => hk.2) (.slice Ao132 t256.length co132)) (fun _ h_ => h_.1))) hb); have n6_ := Aside0.mk (Kd.R_below (by (with_reducible repeat (first | apply Kd.R_alloc)); exact (Kd.R_mono (Kd.R_far (p := ⟨gb260, 1, none⟩) (Kd.R_far (p := ⟨gb260, 0, none⟩) (Kd.R_types HO249.out BK260.out (by decide)) (fun _ hk => hk.2) (.slice Ao126 t253.length co126)) (fun _ hk => hk.2) (.slice Ao132 t256.length co132)) (fun _ h_ => h_.1))) hb); have n7_ := Aside0.mk (Kd.R_below (by (with_reducible repeat (first | apply Kd.R_alloc)); exact (Kd.R_mono (Kd.R_far (p := ⟨gb260, 1, none⟩) (Kd.R_far (p := ⟨gb260, 0, none⟩) (Kd.R_types HO252.out BK260.out (by decide)) (fun _ hk => hk.2) (.slice Ao126 t253.length co126)) (fun _ hk => hk.2) (.slice Ao132 t256.length co132)) (fun _ h_ => h_.1))) hb); have n8_ := Aside0.mk (Kd.R_below (by (with_reducible repeat (first | apply Kd.R_alloc)); exact (Kd.R_mono (Kd.R_far (p := ⟨gb260, 1, none⟩) (Kd.R_far (p := ⟨gb260, 0, none⟩) (Kd.R_types HO255.out BK260.out (by decide)) (fun _ hk => hk.2) (.slice Ao126 t253.length co126)) (fun _ hk => hk.2) (.slice Ao132 t256.length co132)) (fun _ h_ => h_.1))) hb); have n9_ := Aside0.mk (Kd.R_below (by (with_reducible repeat (first | apply Kd.R_alloc)); exact (Kd.R_mono (Kd.R_far (p := ⟨gb260, 1, none⟩) (Kd.R_far (p := ⟨gb260, 0, none⟩) (Kd.R_types HO258.out BK260.out (by decide)) (fun _ hk => hk.2) (.slice Ao126 t253.length co126)) (fun _ hk => hk.2) (.slice Ao132 t256.length co132)) (fun _ h_ => h_.1))) hb); have n10_ := Aside0.mk (blk_below (g := gb200) (o := .cells #[.slice A0_0 l0_0.length c0_0, .slice A0_1 l0_1.length c0_1] 38 (0, 0)) (by (with_reducible repeat (refine blk_alloc ?_ _)); refine blk_far ?_ NB200_260.out _; (with_reducible repeat (refine blk_alloc ?_ _)); refine blk_far ?_ NB200_260.out _; (with_reducible repeat (refine blk_alloc ?_ _)); exact BK200.out) hb); have n11_ := Aside0.mk (blk_below (g := gb215) (o := .cells #[.slice Ao21 t208.length co21, .slice Ao24 t211.length co24] 40 (0, 0)) (by (with_reducible repeat (refine blk_alloc ?_ _)); refine blk_far ?_ NB215_260.out _; (with_reducible repeat (refine blk_alloc ?_ _)); refine blk_far ?_ NB215_260.out _; (with_reducible repeat (refine blk_alloc ?_ _)); exact BK215.out) hb); have n12_ := Aside0.mk (blk_below (g := gb222) (o := .cells #[.slice Ao28 t240.length co28, .slice Ao32 t241.length co32] 40 (0, 0)) (by (with_reducible repeat (refine blk_alloc ?_ _)); refine blk_far ?_ NB222_260.out _; (with_reducible repeat (refine blk_alloc ?_ _)); refine blk_far ?_ NB222_260.out _; (with_reducible repeat (refine blk_alloc ?_ _)); exact BK222.out) hb); have n13_ := Aside0.mk (blk_below (g := gb230) (o := .cells #[.slice Ao37 t223.length co37, .slice Ao42 t226.length co42] 40 (0, 0)) (by (with_reducible repeat (refine blk_alloc ?_ _)); refine blk_far ?_ NB230_260.out _; (with_reducible repeat (refine blk_alloc ?_ _)); refine blk_far ?_ NB230_260.out _; (with_reducible repeat (refine blk_alloc ?_ _)); exact BK230.out) hb); have n14_ := Aside0.mk (blk_below (g := gb260) (o := .cells #[.slice Ao126 t253.length co126, .slice Ao132 t256.length co132] 40 (0, 0)) (by (with_reducible repeat (refine blk_alloc ?_ _)); refine blk_put (cs := #[.slice Ao126 t253.length co126, .slice none 0 0]) ?_ 1 _ rfl; (with_reducible repeat (refine blk_alloc ?_ _)); refine blk_put (cs := #[.slice none 0 0, .slice none 0 0]) ?_ 0 _ rfl; (with_reducible repeat (refine blk_alloc ?_ _)); exact BK260.out) hb); have n15_ := Aside0.mk (below_step (by repeat (first | (with_reducible first | exact HB.out | apply below_alloc | refine below_set ?_ GE200.out | refine below_set ?_ GE215.out | refine below_set ?_ GE222.out | refine below_set ?_ GE230.out | refine below_set ?_ GE260.out) | exact HB.out)) hb); clear HO_216000; clear HO_216001; clear HO_223000; clear HO_223001; clear HO_231000; clear HO_231001; clear HO249; clear HO252; clear HO255; clear HO258; clear BK200; clear BK215; clear BK222; clear BK230; clear BK260; clear HB; have HO_216000 := n0_; have HO_216001 := n1_; have HO_223000 := n2_; have HO_223001 := n3_; have HO_231000 := n4_; have HO_231001 := n5_; have HO249 := n6_; have HO252 := n7_; have HO255 := n8_; have HO258 := n9_; have BK200 := n10_; have BK215 := n11_; have BK222 := n12_; have BK230 := n13_; have BK260 := n14_; have HB := n15_; clear n0_ n1_ n2_ n3_ n4_ n5_ n6_ n7_ n8_ n9_ n10_ n11_ n12_ n13_ n14_ n15_; (try clear hb); (try clear hb2); (try clear hk); (try clear hi)))
                          go_meet
                          case rel => exact ⟨_, ((t259 != t214)), (by first | rfl | (simp; done) | (simp [*]; done)), H', ⟨by have := HJ10.out; have := HJ65.out; first | omega | exact Nat.le_refl _⟩, ⟨by (try simp only [hl223000_65]); (try simp only [hl223001_65]); (with_reducible repeat (first | apply Kd.R_alloc)); exact Kd.R_mono HO_216000.out (fun _ hk => ⟨hk.1.1.1.1.1, ⟨hk.1.1.1.1.2.1, ⟨hk.1.1.1.1.2.2.1, ⟨hk.1.1.1.1.2.2.2.1, ⟨hk.1.1.1.1.2.2.2.2, ⟨hk.1.2, hk.2⟩⟩⟩⟩⟩⟩)⟩, ⟨by (try simp only [hl223000_65]); (try simp only [hl223001_65]); (with_reducible repeat (first | apply Kd.R_alloc)); exact Kd.R_mono HO_216001.out (fun _ hk => ⟨hk.1.1.1.1.1, ⟨hk.1.1.1.1.2.1, ⟨hk.1.1.1.1.2.2.1, ⟨hk.1.1.1.1.2.2.2.1, ⟨hk.1.1.1.1.2.2.2.2, ⟨hk.1.2, hk.2⟩⟩⟩⟩⟩⟩)⟩, ⟨by (try simp only [hl223000_65]); (try simp only [hl223001_65]); (with_reducible repeat (first | apply Kd.R_alloc)); exact Kd.R_mono HO_223000.out (fun _ hk => ⟨hk.1.1.1.1.1, ⟨hk.1.1.1.1.2.1, ⟨hk.1.1.1.1.2.2.1, ⟨hk.1.1.1.1.2.2.2.1, ⟨hk.1.1.1.1.2.2.2.2, ⟨hk.1.2, hk.2⟩⟩⟩⟩⟩⟩)⟩, ⟨by (try simp only [hl223000_65]); (try simp only [hl223001_65]); (with_reducible repeat (first | apply Kd.R_alloc)); exact Kd.R_mono HO_223001.out (fun _ hk => ⟨hk.1.1.1.1.1, ⟨hk.1.1.1.1.2.1, ⟨hk.1.1.1.1.2.2.1, ⟨hk.1.1.1.1.2.2.2.1, ⟨hk.1.1.1.1.2.2.2.2, ⟨hk.1.2, hk.2⟩⟩⟩⟩⟩⟩)⟩, ⟨by (try simp only [hl223000_65]); (try simp only [hl223001_65]); (with_reducible repeat (first | apply Kd.R_alloc)); exact Kd.R_mono HO_231000.out (fun _ hk => ⟨hk.1.1.1.1.1, ⟨hk.1.1.1.1.2.1, ⟨hk.1.1.1.1.2.2.1, ⟨hk.1.1.1.1.2.2.2.1, ⟨hk.1.1.1.1.2.2.2.2, ⟨hk.1.2, hk.2⟩⟩⟩⟩⟩⟩)⟩, ⟨by (try simp only [hl223000_65]); (try simp only [hl223001_65]); (with_reducible repeat (first | apply Kd.R_alloc)); exact Kd.R_mono HO_231001.out (fun _ hk => ⟨hk.1.1.1.1.1, ⟨hk.1.1.1.1.2.1, ⟨hk.1.1.1.1.2.2.1, ⟨hk.1.1.1.1.2.2.2.1, ⟨hk.1.1.1.1.2.2.2.2, ⟨hk.1.2, hk.2⟩⟩⟩⟩⟩⟩)⟩, ⟨by (try simp only [hl223000_65]); (try simp only [hl223001_65]); (with_reducible repeat (first | apply Kd.R_alloc)); exact Kd.R_mono HO255.out (fun _ hk => ⟨hk.1.1.1.1.1.1.1.2, ⟨hk.1.1.1.1.1.1.2, ⟨hk.1.1.1.1.1.2, ⟨hk.1.1.1.1.2, ⟨hk.1.1.1.2, ⟨hk.1.1.2, hk.1.1.1.1.1.1.1.1⟩⟩⟩⟩⟩⟩)⟩, ⟨by (try simp only [hl223000_65]); (try simp only [hl223001_65]); (with_reducible repeat (first | apply Kd.R_alloc)); exact Kd.R_mono HO258.out (fun _ hk => ⟨hk.1.1.1.1.1.1.1.2, ⟨hk.1.1.1.1.1.1.2, ⟨hk.1.1.1.1.1.2, ⟨hk.1.1.1.1.2, ⟨hk.1.1.1.2, ⟨hk.1.1.2, hk.1.1.1.1.1.1.1.1⟩⟩⟩⟩⟩⟩)⟩, ⟨by (try simp only [hl223000_65]); (try simp only [hl223001_65]); (with_reducible repeat (refine blk_alloc ?_ _)); exact BK200.out⟩, ⟨by (try simp only [hl223000_65]); (try simp only [hl223001_65]); (with_reducible repeat (refine blk_alloc ?_ _)); exact BK215.out⟩, ⟨by (try simp only [hl223000_65]); (try simp only [hl223001_65]); (with_reducible repeat (refine blk_alloc ?_ _)); exact BK222.out⟩, ⟨by (try simp only [hl223000_65]); (try simp only [hl223001_65]); (with_reducible repeat (refine blk_alloc ?_ _)); exact BK230.out⟩, ⟨by (try simp only [hl223000_65]); (try simp only [hl223001_65]); (with_reducible repeat (refine blk_alloc ?_ _)); exact BK260.out⟩, ⟨by repeat (first | (with_reducible first | exact HB.out | apply below_alloc | refine below_set ?_ GE200.out | refine below_set ?_ GE215.out | refine below_set ?_ GE222.out | refine below_set ?_ GE230.out | refine below_set ?_ GE260.out) | exact HB.out)⟩⟩
                        · replace c134 := Bool.eq_false_iff.mpr c134
                          subst c134
                          have H1 : (laws_FnExactSyncDisk.j2 kj65 t243 true t244 t245) = some r := by rw [if_neg (show ¬ (false = true) by decide)] at H; exact H
                          clear H
                          have H := H1
                          clear H1
                          have H' := Aside0.mk H
                          clear H
                          have hnb145 := NB260_200.out
                          have hnc145 := NB200_260.out
                          have hnb146 := NB260_215.out
                          have hnc146 := NB215_260.out
                          have hnb147 := NB260_222.out
                          have hnc147 := NB222_260.out
                          have hnb148 := NB260_230.out
                          have hnc148 := NB230_260.out
                          have hcz149_0 : w125.cell? ⟨gb260, 0, none⟩ = some (.slice none 0 0) := (blk_cell BK260.out 0).trans rfl
                          have hcz149_1 : w125.cell? ⟨gb260, 1, none⟩ = some (.slice none 0 0) := (blk_cell BK260.out 1).trans rfl
                          have hfz149_0 := blk_frozen BK260.out 0
                          have hfz149_1 := blk_frozen BK260.out 1
                          have hnb150 := NB215_200.out
                          have hnc150 := NB200_215.out
                          have hnb151 := NB215_222.out
                          have hnc151 := NB222_215.out
                          have hnb152 := NB215_230.out
                          have hnc152 := NB230_215.out
                          have hcz153_0 : w125.cell? ⟨gb215, 0, none⟩ = some (.slice Ao21 t208.length co21) := (blk_cell BK215.out 0).trans rfl
                          have hcz153_1 : w125.cell? ⟨gb215, 1, none⟩ = some (.slice Ao24 t211.length co24) := (blk_cell BK215.out 1).trans rfl
                          have hfz153_0 := blk_frozen BK215.out 0
                          have hfz153_1 := blk_frozen BK215.out 1
                          go_wp2_with (first | ((with_reducible refine gate_callee (f := 28) rfl ?_); refine goesL_ (some 81) rfl rfl Try.func28 (by kernel_rfl) rfl #[.agg #[.slice Ao126 t253.length co126, .slice Ao132 t256.length co132], .agg #[.slice Ao21 t208.length co21, .slice Ao24 t211.length co24]] rfl (by (try simp only [List.map_toArray, List.map_cons, List.map_nil]); first | done | rfl | (simp only [List.length_drop, List.length_take]; rfl)) ?_; (with_reducible refine (laws_eqDisk.calls kj65 _ _ t253 _ _ t256 _ _ t208 _ _ t211 false _ ?side1 ?side2 ?side3 ?side4 ?side5 ?side6 ?side7 ?side8 A133.out).mono ?_); (case side1 => refine (Kd.R_reads' (e := 9) (base := w.heap.size) (ok := fun k_ => ((((((((some k_ ≠ (.slice Ao132 t256.length co132 : Value).ownBlock ∧ some k_ ≠ (.slice Ao21 t208.length co21 : Value).ownBlock) ∧ some k_ ≠ (.slice Ao24 t211.length co24 : Value).ownBlock) ∧ some k_ ≠ (.slice Ao28 t240.length co28 : Value).ownBlock) ∧ some k_ ≠ (.slice Ao32 t241.length co32 : Value).ownBlock) ∧ some k_ ≠ (.slice Ao37 t223.length co37 : Value).ownBlock) ∧ some k_ ≠ (.slice Ao42 t226.length co42 : Value).ownBlock) ∧ some k_ ≠ (.slice Ao122 t247.length co122 : Value).ownBlock) ∧ some k_ ≠ (.slice Ao123 t250.length co123 : Value).ownBlock)) (n := t253.length) (c := co126) ?_).2.2; exact (by (with_reducible repeat (first | apply Kd.R_alloc)); exact (Kd.R_mono (Kd.R_far (p := ⟨gb260, 1, none⟩) (Kd.R_far (p := ⟨gb260, 0, none⟩) (Kd.R_types HO255.out BK260.out (by decide)) (fun _ hk => hk.2) (.slice Ao126 t253.length co126)) (fun _ hk => hk.2) (.slice Ao132 t256.length co132)) (fun _ h_ => h_.1)))); (case side2 => exact (Kd.R_reads' HO255.out).2.1); (case side3 => refine (Kd.R_reads' (e := 9) (base := w.heap.size) (ok := fun k_ => ((((((((some k_ ≠ (.slice Ao126 t253.length co126 : Value).ownBlock ∧ some k_ ≠ (.slice Ao21 t208.length co21 : Value).ownBlock) ∧ some k_ ≠ (.slice Ao24 t211.length co24 : Value).ownBlock) ∧ some k_ ≠ (.slice Ao28 t240.length co28 : Value).ownBlock) ∧ some k_ ≠ (.slice Ao32 t241.length co32 : Value).ownBlock) ∧ some k_ ≠ (.slice Ao37 t223.length co37 : Value).ownBlock) ∧ some k_ ≠ (.slice Ao42 t226.length co42 : Value).ownBlock) ∧ some k_ ≠ (.slice Ao122 t247.length co122 : Value).ownBlock) ∧ some k_ ≠ (.slice Ao123 t250.length co123 : Value).ownBlock)) (n := t256.length) (c := co132) ?_).2.2; exact (by (with_reducible repeat (first | apply Kd.R_alloc)); exact (Kd.R_mono (Kd.R_far (p := ⟨gb260, 1, none⟩) (Kd.R_far (p := ⟨gb260, 0, none⟩) (Kd.R_types HO258.out BK260.out (by decide)) (fun _ hk => hk.2) (.slice Ao126 t253.length co126)) (fun _ hk => hk.2) (.slice Ao132 t256.length co132)) (fun _ h_ => h_.1)))); (case side4 => exact (Kd.R_reads' HO258.out).2.1); (case side5 => refine (Kd.R_reads' (e := 9) (base := w.heap.size) (ok := fun k_ => (((((some k_ ≠ (.slice Ao24 t211.length co24 : Value).ownBlock ∧ (some k_ ≠ (.slice Ao28 t240.length co28 : Value).ownBlock ∧ (some k_ ≠ (.slice Ao32 t241.length co32 : Value).ownBlock ∧ (some k_ ≠ (.slice Ao37 t223.length co37 : Value).ownBlock ∧ some k_ ≠ (.slice Ao42 t226.length co42 : Value).ownBlock)))) ∧ some k_ ≠ (.slice Ao122 t247.length co122 : Value).ownBlock) ∧ some k_ ≠ (.slice Ao123 t250.length co123 : Value).ownBlock) ∧ some k_ ≠ (.slice Ao126 t253.length co126 : Value).ownBlock) ∧ some k_ ≠ (.slice Ao132 t256.length co132 : Value).ownBlock)) (n := t208.length) (c := co21) ?_).2.2; exact (by (with_reducible repeat (first | apply Kd.R_alloc)); exact (Kd.R_mono (Kd.R_far (p := ⟨gb260, 1, none⟩) (Kd.R_far (p := ⟨gb260, 0, none⟩) (Kd.R_types HO_216000.out BK260.out (by decide)) (fun _ hk => hk.2) (.slice Ao126 t253.length co126)) (fun _ hk => hk.2) (.slice Ao132 t256.length co132)) (fun _ h_ => h_.1)))); (case side6 => exact (Kd.R_reads' HO_216000.out).2.1); (case side7 => refine (Kd.R_reads' (e := 9) (base := w.heap.size) (ok := fun k_ => (((((some k_ ≠ (.slice Ao21 t208.length co21 : Value).ownBlock ∧ (some k_ ≠ (.slice Ao28 t240.length co28 : Value).ownBlock ∧ (some k_ ≠ (.slice Ao32 t241.length co32 : Value).ownBlock ∧ (some k_ ≠ (.slice Ao37 t223.length co37 : Value).ownBlock ∧ some k_ ≠ (.slice Ao42 t226.length co42 : Value).ownBlock)))) ∧ some k_ ≠ (.slice Ao122 t247.length co122 : Value).ownBlock) ∧ some k_ ≠ (.slice Ao123 t250.length co123 : Value).ownBlock) ∧ some k_ ≠ (.slice Ao126 t253.length co126 : Value).ownBlock) ∧ some k_ ≠ (.slice Ao132 t256.length co132 : Value).ownBlock)) (n := t211.length) (c := co24) ?_).2.2; exact (by (with_reducible repeat (first | apply Kd.R_alloc)); exact (Kd.R_mono (Kd.R_far (p := ⟨gb260, 1, none⟩) (Kd.R_far (p := ⟨gb260, 0, none⟩) (Kd.R_types HO_216001.out BK260.out (by decide)) (fun _ hk => hk.2) (.slice Ao126 t253.length co126)) (fun _ hk => hk.2) (.slice Ao132 t256.length co132)) (fun _ h_ => h_.1)))); (case side8 => exact (Kd.R_reads' HO_216001.out).2.1); rintro e w154 ⟨rfl, hb⟩; refine ⟨_, rfl, ?_⟩; have n0_ := Aside0.mk (Kd.R_below (by (with_reducible repeat (first | apply Kd.R_alloc)); exact (Kd.R_mono (Kd.R_far (p := ⟨gb260, 1, none⟩) (Kd.R_far (p := ⟨gb260, 0, none⟩) (Kd.R_types HO_216000.out BK260.out (by decide)) (fun _ hk => hk.2) (.slice Ao126 t253.length co126)) (fun _ hk => hk.2) (.slice Ao132 t256.length co132)) (fun _ h_ => h_.1))) hb); have n1_ := Aside0.mk (Kd.R_below (by (with_reducible repeat (first | apply Kd.R_alloc)); exact (Kd.R_mono (Kd.R_far (p := ⟨gb260, 1, none⟩) (Kd.R_far (p := ⟨gb260, 0, none⟩) (Kd.R_types HO_216001.out BK260.out (by decide)) (fun _ hk => hk.2) (.slice Ao126 t253.length co126)) (fun _ hk => hk.2) (.slice Ao132 t256.length co132)) (fun _ h_ => h_.1))) hb); have n2_ := Aside0.mk (Kd.R_below (by (with_reducible repeat (first | apply Kd.R_alloc)); exact (Kd.R_mono (Kd.R_far (p := ⟨gb260, 1, none⟩) (Kd.R_far (p := ⟨gb260, 0, none⟩) (Kd.R_types HO_223000.out BK260.out (by decide)) (fun _ hk => hk.2) (.slice Ao126 t253.length co126)) (fun _ hk => hk.2) (.slice Ao132 t256.length co132)) (fun _ h_ => h_.1))) hb); have n3_ := Aside0.mk (Kd.R_below (by (with_reducible repeat (first | apply Kd.R_alloc)); exact (Kd.R_mono (Kd.R_far (p := ⟨gb260, 1, none⟩) (Kd.R_far (p := ⟨gb260, 0, none⟩) (Kd.R_types HO_223001.out BK260.out (by decide)) (fun _ hk => hk.2) (.slice Ao126 t253.length co126)) (fun _ hk => hk.2) (.slice Ao132 t256.length co132)) (fun _ h_ => h_.1))) hb); have n4_ := Aside0.mk (Kd.R_below (by (with_reducible repeat (first | apply Kd.R_alloc)); exact (Kd.R_mono (Kd.R_far (p := ⟨gb260, 1, none⟩) (Kd.R_far (p := ⟨gb260, 0, none⟩) (Kd.R_types HO_231000.out BK260.out (by decide)) (fun _ hk => hk.2) (.slice Ao126 t253.length co126)) (fun _ hk => hk.2) (.slice Ao132 t256.length co132)) (fun _ h_ => h_.1))) hb); have n5_ := Aside0.mk (Kd.R_below (by (with_reducible repeat (first | apply Kd.R_alloc)); exact (Kd.R_mono (Kd.R_far (p := ⟨gb260, 1, none⟩) (Kd.R_far (p := ⟨gb260, 0, none⟩) (Kd.R_types HO_231001.out BK260.out (by decide)) (fun _ hk => hk.2) (.slice Ao126 t253.length co126)) (fun _ hk => hk.2) (.slice Ao132 t256.length co132)) (fun _ h_ => h_.1))) hb); have n6_ := Aside0.mk (Kd.R_below (by (with_reducible repeat (first | apply Kd.R_alloc)); exact (Kd.R_mono (Kd.R_far (p := ⟨gb260, 1, none⟩) (Kd.R_far (p := ⟨gb260, 0, none⟩) (Kd.R_types HO249.out BK260.out (by decide)) (fun _ hk => hk.2) (.slice Ao126 t253.length co126)) (fun _ hk => hk.2) (.slice Ao132 t256.length co132)) (fun _ h_ => h_.1))) hb); have n7_ := Aside0.mk (Kd.R_below (by (with_reducible repeat (first | apply Kd.R_alloc)); exact (Kd.R_mono (Kd.R_far (p := ⟨gb260, 1, none⟩) (Kd.R_far (p := ⟨gb260, 0, none⟩) (Kd.R_types HO252.out BK260.out (by decide)) (fun _ hk => hk.2) (.slice Ao126 t253.length co126)) (fun _ hk => hk.2) (.slice Ao132 t256.length co132)) (fun _ h_ => h_.1))) hb); have n8_ := Aside0.mk (Kd.R_below (by (with_reducible repeat (first | apply Kd.R_alloc)); exact (Kd.R_mono (Kd.R_far (p := ⟨gb260, 1, none⟩) (Kd.R_far (p := ⟨gb260, 0, none⟩) (Kd.R_types HO255.out BK260.out (by decide)) (fun _ hk => hk.2) (.slice Ao126 t253.length co126)) (fun _ hk => hk.2) (.slice Ao132 t256.length co132)) (fun _ h_ => h_.1))) hb); have n9_ := Aside0.mk (Kd.R_below (by (with_reducible repeat (first | apply Kd.R_alloc)); exact (Kd.R_mono (Kd.R_far (p := ⟨gb260, 1, none⟩) (Kd.R_far (p := ⟨gb260, 0, none⟩) (Kd.R_types HO258.out BK260.out (by decide)) (fun _ hk => hk.2) (.slice Ao126 t253.length co126)) (fun _ hk => hk.2) (.slice Ao132 t256.length co132)) (fun _ h_ => h_.1))) hb); have n10_ := Aside0.mk (blk_below (g := gb200) (o := .cells #[.slice A0_0 l0_0.length c0_0, .slice A0_1 l0_1.length c0_1] 38 (0, 0)) (by (with_reducible repeat (refine blk_alloc ?_ _)); refine blk_far ?_ NB200_260.out _; (with_reducible repeat (refine blk_alloc ?_ _)); refine blk_far ?_ NB200_260.out _; (with_reducible repeat (refine blk_alloc ?_ _)); exact BK200.out) hb); have n11_ := Aside0.mk (blk_below (g := gb215) (o := .cells #[.slice Ao21 t208.length co21, .slice Ao24 t211.length co24] 40 (0, 0)) (by (with_reducible repeat (refine blk_alloc ?_ _)); refine blk_far ?_ NB215_260.out _; (with_reducible repeat (refine blk_alloc ?_ _)); refine blk_far ?_ NB215_260.out _; (with_reducible repeat (refine blk_alloc ?_ _)); exact BK215.out) hb); have n12_ := Aside0.mk (blk_below (g := gb222) (o := .cells #[.slice Ao28 t240.length co28, .slice Ao32 t241.length co32] 40 (0, 0)) (by (with_reducible repeat (refine blk_alloc ?_ _)); refine blk_far ?_ NB222_260.out _; (with_reducible repeat (refine blk_alloc ?_ _)); refine blk_far ?_ NB222_260.out _; (with_reducible repeat (refine blk_alloc ?_ _)); exact BK222.out) hb); have n13_ := Aside0.mk (blk_below (g := gb230) (o := .cells #[.slice Ao37 t223.length co37, .slice Ao42 t226.length co42] 40 (0, 0)) (by (with_reducible repeat (refine blk_alloc ?_ _)); refine blk_far ?_ NB230_260.out _; (with_reducible repeat (refine blk_alloc ?_ _)); refine blk_far ?_ NB230_260.out _; (with_reducible repeat (refine blk_alloc ?_ _)); exact BK230.out) hb); have n14_ := Aside0.mk (blk_below (g := gb260) (o := .cells #[.slice Ao126 t253.length co126, .slice Ao132 t256.length co132] 40 (0, 0)) (by (with_reducible repeat (refine blk_alloc ?_ _)); refine blk_put (cs := #[.slice Ao126 t253.length co126, .slice none 0 0]) ?_ 1 _ rfl; (with_reducible repeat (refine blk_alloc ?_ _)); refine blk_put (cs := #[.slice none 0 0, .slice none 0 0]) ?_ 0 _ rfl; (with_reducible repeat (refine blk_alloc ?_ _)); exact BK260.out) hb); have n15_ := Aside0.mk (below_step (by repeat (first | (with_reducible first | exact HB.out | apply below_alloc | refine below_set ?_ GE200.out | refine below_set ?_ GE215.out | refine below_set ?_ GE222.out | refine below_set ?_ GE230.out | refine below_set ?_ GE260.out) | exact HB.out)) hb); clear HO_216000; clear HO_216001; clear HO_223000; clear HO_223001; clear HO_231000; clear HO_231001; clear HO249; clear HO252; clear HO255; clear HO258; clear BK200; clear BK215; clear BK222; clear BK230; clear BK260; clear HB; have HO_216000 := n0_; have HO_216001 := n1_; have HO_223000 := n2_; have HO_223001 := n3_; have HO_231000 := n4_; have HO_231001 := n5_; have HO249 := n6_; have HO252 := n7_; have HO255 := n8_; have HO258 := n9_; have BK200 := n10_; have BK215 := n11_; have BK222 := n12_; have BK230 := n13_; have BK260 := n14_; have HB := n15_; clear n0_ n1_ n2_ n3_ n4_ n5_ n6_ n7_ n8_ n9_ n10_ n11_ n12_ n13_ n14_ n15_; (try clear hb); (try clear hb2); (try clear hk); (try clear hi)))
                          go_meet
                          case rel => exact ⟨_, (true), (by first | rfl | (simp; done) | (simp [*]; done)), H', ⟨by have := HJ10.out; have := HJ65.out; first | omega | exact Nat.le_refl _⟩, ⟨by (try simp only [hl223000_65]); (try simp only [hl223001_65]); (with_reducible repeat (first | apply Kd.R_alloc)); exact Kd.R_mono HO_216000.out (fun _ hk => ⟨hk.1.1.1.1.1, ⟨hk.1.1.1.1.2.1, ⟨hk.1.1.1.1.2.2.1, ⟨hk.1.1.1.1.2.2.2.1, ⟨hk.1.1.1.1.2.2.2.2, ⟨hk.1.2, hk.2⟩⟩⟩⟩⟩⟩)⟩, ⟨by (try simp only [hl223000_65]); (try simp only [hl223001_65]); (with_reducible repeat (first | apply Kd.R_alloc)); exact Kd.R_mono HO_216001.out (fun _ hk => ⟨hk.1.1.1.1.1, ⟨hk.1.1.1.1.2.1, ⟨hk.1.1.1.1.2.2.1, ⟨hk.1.1.1.1.2.2.2.1, ⟨hk.1.1.1.1.2.2.2.2, ⟨hk.1.2, hk.2⟩⟩⟩⟩⟩⟩)⟩, ⟨by (try simp only [hl223000_65]); (try simp only [hl223001_65]); (with_reducible repeat (first | apply Kd.R_alloc)); exact Kd.R_mono HO_223000.out (fun _ hk => ⟨hk.1.1.1.1.1, ⟨hk.1.1.1.1.2.1, ⟨hk.1.1.1.1.2.2.1, ⟨hk.1.1.1.1.2.2.2.1, ⟨hk.1.1.1.1.2.2.2.2, ⟨hk.1.2, hk.2⟩⟩⟩⟩⟩⟩)⟩, ⟨by (try simp only [hl223000_65]); (try simp only [hl223001_65]); (with_reducible repeat (first | apply Kd.R_alloc)); exact Kd.R_mono HO_223001.out (fun _ hk => ⟨hk.1.1.1.1.1, ⟨hk.1.1.1.1.2.1, ⟨hk.1.1.1.1.2.2.1, ⟨hk.1.1.1.1.2.2.2.1, ⟨hk.1.1.1.1.2.2.2.2, ⟨hk.1.2, hk.2⟩⟩⟩⟩⟩⟩)⟩, ⟨by (try simp only [hl223000_65]); (try simp only [hl223001_65]); (with_reducible repeat (first | apply Kd.R_alloc)); exact Kd.R_mono HO_231000.out (fun _ hk => ⟨hk.1.1.1.1.1, ⟨hk.1.1.1.1.2.1, ⟨hk.1.1.1.1.2.2.1, ⟨hk.1.1.1.1.2.2.2.1, ⟨hk.1.1.1.1.2.2.2.2, ⟨hk.1.2, hk.2⟩⟩⟩⟩⟩⟩)⟩, ⟨by (try simp only [hl223000_65]); (try simp only [hl223001_65]); (with_reducible repeat (first | apply Kd.R_alloc)); exact Kd.R_mono HO_231001.out (fun _ hk => ⟨hk.1.1.1.1.1, ⟨hk.1.1.1.1.2.1, ⟨hk.1.1.1.1.2.2.1, ⟨hk.1.1.1.1.2.2.2.1, ⟨hk.1.1.1.1.2.2.2.2, ⟨hk.1.2, hk.2⟩⟩⟩⟩⟩⟩)⟩, ⟨by (try simp only [hl223000_65]); (try simp only [hl223001_65]); (with_reducible repeat (first | apply Kd.R_alloc)); exact Kd.R_mono HO255.out (fun _ hk => ⟨hk.1.1.1.1.1.1.1.2, ⟨hk.1.1.1.1.1.1.2, ⟨hk.1.1.1.1.1.2, ⟨hk.1.1.1.1.2, ⟨hk.1.1.1.2, ⟨hk.1.1.2, hk.1.1.1.1.1.1.1.1⟩⟩⟩⟩⟩⟩)⟩, ⟨by (try simp only [hl223000_65]); (try simp only [hl223001_65]); (with_reducible repeat (first | apply Kd.R_alloc)); exact Kd.R_mono HO258.out (fun _ hk => ⟨hk.1.1.1.1.1.1.1.2, ⟨hk.1.1.1.1.1.1.2, ⟨hk.1.1.1.1.1.2, ⟨hk.1.1.1.1.2, ⟨hk.1.1.1.2, ⟨hk.1.1.2, hk.1.1.1.1.1.1.1.1⟩⟩⟩⟩⟩⟩)⟩, ⟨by (try simp only [hl223000_65]); (try simp only [hl223001_65]); (with_reducible repeat (refine blk_alloc ?_ _)); exact BK200.out⟩, ⟨by (try simp only [hl223000_65]); (try simp only [hl223001_65]); (with_reducible repeat (refine blk_alloc ?_ _)); exact BK215.out⟩, ⟨by (try simp only [hl223000_65]); (try simp only [hl223001_65]); (with_reducible repeat (refine blk_alloc ?_ _)); exact BK222.out⟩, ⟨by (try simp only [hl223000_65]); (try simp only [hl223001_65]); (with_reducible repeat (refine blk_alloc ?_ _)); exact BK230.out⟩, ⟨by (try simp only [hl223000_65]); (try simp only [hl223001_65]); (with_reducible repeat (refine blk_alloc ?_ _)); exact BK260.out⟩, ⟨by repeat (first | (with_reducible first | exact HB.out | apply below_alloc | refine below_set ?_ GE200.out | refine below_set ?_ GE215.out | refine below_set ?_ GE222.out | refine below_set ?_ GE230.out | refine below_set ?_ GE260.out) | exact HB.out)⟩⟩
                      case rest =>
                        clear HC110
                        try clear c1
                        try clear c2
                        try clear p2
                        try clear c3
                        try clear c3b0
                        try clear c4
                        try clear c5
                        try clear c6
                        try clear c7
                        try clear c8
                        try clear c9
                        try clear c10
                        try clear c11
                        try clear c12
                        try clear c13
                        try clear c14
                        try clear c15
                        try clear c22
                        try clear c24
                        try clear c25
                        try clear c26
                        try clear c27
                        try clear c28
                        try clear c29
                        try clear c30
                        try clear c38
                        try clear c39
                        try clear c40
                        try clear c44
                        try clear c45
                        try clear c46
                        try clear c47
                        try clear c49
                        try clear c50
                        try clear c53
                        try clear c54
                        try clear c55
                        try clear c57
                        try clear c58
                        try clear c61
                        try clear c64
                        try clear c72
                        try clear c73
                        try clear c74
                        try clear c77
                        try clear c77b0
                        try clear c79
                        try clear c80
                        try clear c81
                        try clear c82
                        try clear c84
                        try clear c85
                        try clear c88
                        try clear c89
                        try clear c90
                        try clear c92
                        try clear c93
                        try clear c96
                        try clear c99
                        try clear c99b0
                        try clear c100
                        try clear c101
                        try clear c102
                        try clear c107
                        try clear c107b0
                        try clear c107b1
                        try clear c111
                        try clear c112
                        try clear c113
                        try clear c118
                        try clear c119
                        try clear c127
                        try clear c128
                        try clear c129
                        try clear c130
                        try clear c134
                        try clear c135
                        try clear c136
                        try clear c137
                        try clear c138
                        try clear c140
                        try clear c141
                        try clear c142
                        try clear c145
                        try clear c146
                        try clear c147
                        try clear c148
                        try clear c150
                        try clear c151
                        try clear c152
                        try clear hcz103_0
                        try clear hcz103_1
                        try clear hcz105_0
                        try clear hcz105_1
                        try clear hcz114_0
                        try clear hcz114_1
                        try clear hcz116_0
                        try clear hcz116_1
                        try clear hcz120_0
                        try clear hcz120_1
                        try clear hcz131_0
                        try clear hcz131_1
                        try clear hcz139_0
                        try clear hcz139_1
                        try clear hcz13_0
                        try clear hcz13_1
                        try clear hcz143_0
                        try clear hcz143_1
                        try clear hcz149_0
                        try clear hcz149_1
                        try clear hcz153_0
                        try clear hcz153_1
                        try clear hcz15_0
                        try clear hcz15_1
                        try clear hcz23_0
                        try clear hcz23_1
                        try clear hcz25_0
                        try clear hcz25_1
                        try clear hcz31_0
                        try clear hcz31_1
                        try clear hcz34_0
                        try clear hcz34_1
                        try clear hcz41_0
                        try clear hcz41_1
                        try clear hcz48_0
                        try clear hcz48_1
                        try clear hcz51_0
                        try clear hcz51_1
                        try clear hcz56_0
                        try clear hcz56_1
                        try clear hcz59_0
                        try clear hcz59_1
                        try clear hcz5_0
                        try clear hcz5_1
                        try clear hcz75_0
                        try clear hcz75_1
                        try clear hcz83_0
                        try clear hcz83_1
                        try clear hcz86_0
                        try clear hcz86_1
                        try clear hcz91_0
                        try clear hcz91_1
                        try clear hcz94_0
                        try clear hcz94_1
                        try clear hfz103_0
                        try clear hfz103_1
                        try clear hfz105_0
                        try clear hfz105_1
                        try clear hfz114_0
                        try clear hfz114_1
                        try clear hfz116_0
                        try clear hfz116_1
                        try clear hfz120_0
                        try clear hfz120_1
                        try clear hfz131_0
                        try clear hfz131_1
                        try clear hfz139_0
                        try clear hfz139_1
                        try clear hfz13_0
                        try clear hfz13_1
                        try clear hfz143_0
                        try clear hfz143_1
                        try clear hfz149_0
                        try clear hfz149_1
                        try clear hfz153_0
                        try clear hfz153_1
                        try clear hfz15_0
                        try clear hfz15_1
                        try clear hfz23_0
                        try clear hfz23_1
                        try clear hfz25_0
                        try clear hfz25_1
                        try clear hfz31_0
                        try clear hfz31_1
                        try clear hfz34_0
                        try clear hfz34_1
                        try clear hfz41_0
                        try clear hfz41_1
                        try clear hfz48_0
                        try clear hfz48_1
                        try clear hfz51_0
                        try clear hfz51_1
                        try clear hfz56_0
                        try clear hfz56_1
                        try clear hfz59_0
                        try clear hfz59_1
                        try clear hfz5_0
                        try clear hfz5_1
                        try clear hfz75_0
                        try clear hfz75_1
                        try clear hfz83_0
                        try clear hfz83_1
                        try clear hfz86_0
                        try clear hfz86_1
                        try clear hfz91_0
                        try clear hfz91_1
                        try clear hfz94_0
                        try clear hfz94_1
                        try clear p2
                        obtain ⟨kq, x87_109, rfl, HA, HJ109, HO_216000, HO_216001, HO_223000, HO_223001, HO_231000, HO_231001, HO_261000, HO_261001, BK200, BK215, BK222, BK230, BK260, HB⟩ := hcut
                        have hl231000_109 := (Kd.R_reads' HO_231000.out).1
                        rw [hl231000_109] at HO_231000
                        (try simp only [hl231000_109])
                        (try simp only [hl231000_109] at BK200)
                        (try simp only [hl231000_109] at BK215)
                        (try simp only [hl231000_109] at BK222)
                        (try simp only [hl231000_109] at BK230)
                        (try simp only [hl231000_109] at BK260)
                        (try simp only [hl231000_109] at HO_216000)
                        (try simp only [hl231000_109] at HO_216001)
                        (try simp only [hl231000_109] at HO_223000)
                        (try simp only [hl231000_109] at HO_223001)
                        (try simp only [hl231000_109] at HO_231001)
                        (try simp only [hl231000_109] at HO_261000)
                        (try simp only [hl231000_109] at HO_261001)
                        have hl231001_109 := (Kd.R_reads' HO_231001.out).1
                        rw [hl231001_109] at HO_231001
                        (try simp only [hl231001_109])
                        (try simp only [hl231001_109] at BK200)
                        (try simp only [hl231001_109] at BK215)
                        (try simp only [hl231001_109] at BK222)
                        (try simp only [hl231001_109] at BK230)
                        (try simp only [hl231001_109] at BK260)
                        (try simp only [hl231001_109] at HO_216000)
                        (try simp only [hl231001_109] at HO_216001)
                        (try simp only [hl231001_109] at HO_223000)
                        (try simp only [hl231001_109] at HO_223001)
                        (try simp only [hl231001_109] at HO_231000)
                        (try simp only [hl231001_109] at HO_261000)
                        (try simp only [hl231001_109] at HO_261001)
                        cases kq with
                        | zero => exact absurd HA.out (by simp [laws_FnExactSyncDisk.j2])
                        | succ kj109 =>
                          have H := HA.out
                          clear HA
                          simp only [laws_FnExactSyncDisk.j2] at H
                          by_cases c155 : x87_109 = true
                          · subst c155
                            have H1 : (some false) = some r := by rw [if_pos rfl] at H; exact H
                            clear H
                            have H := H1
                            clear H1
                            obtain rfl := Option.some.inj H
                            go_wp2
                            go_ret
                            exact ⟨by first | rfl | (simp [errW_none, errW_some] <;> rfl) | (simp [*, errW_none, errW_some] <;> rfl), by repeat (first | (with_reducible first | exact HB.out | apply below_alloc | refine below_set ?_ GE200.out | refine below_set ?_ GE215.out | refine below_set ?_ GE222.out | refine below_set ?_ GE230.out | refine below_set ?_ GE260.out) | exact HB.out)⟩
                          · replace c155 := Bool.eq_false_iff.mpr c155
                            subst c155
                            have H1 : ((laws_heldDisk.f kj109 t244 t245 1).bind fun t262 => (if t262 < 0 then (some false) else (if t262 = t243 then (some true) else (some false)))) = some r := by rw [if_neg (show ¬ (false = true) by decide)] at H; exact H
                            clear H
                            have H := H1
                            clear H1
                            replace H := Option.bind_eq_some_iff.mp H
                            obtain ⟨t262, A1560, H⟩ := H
                            replace H : (if t262 < 0 then (some false) else (if t262 = t243 then (some true) else (some false))) = some r := H
                            have A156 := Aside0.mk A1560
                            clear A1560
                            by_cases c157 : t262 < 0
                            · rw [if_pos c157] at H
                              have c157b0 : decide (t262 < 0) = true := decide_eq_true c157
                              clear c157
                              obtain rfl := Option.some.inj H
                              have hnb158 := NB230_200.out
                              have hnc158 := NB200_230.out
                              have hnb159 := NB230_215.out
                              have hnc159 := NB215_230.out
                              have hnb160 := NB230_222.out
                              have hnc160 := NB222_230.out
                              have hnb161 := NB230_260.out
                              have hnc161 := NB260_230.out
                              have hcz162_0 : wc.cell? ⟨gb230, 0, none⟩ = some (.slice Ao37 t244.length co37) := (blk_cell BK230.out 0).trans rfl
                              have hcz162_1 : wc.cell? ⟨gb230, 1, none⟩ = some (.slice Ao42 t245.length co42) := (blk_cell BK230.out 1).trans rfl
                              have hfz162_0 := blk_frozen BK230.out 0
                              have hfz162_1 := blk_frozen BK230.out 1
                              go_wp2_with (first | ((with_reducible refine gate_callee (f := 30) rfl ?_); refine goesL_ (some 90) rfl rfl Try.func30 (by kernel_rfl) rfl #[.agg #[.slice Ao37 t244.length co37, .slice Ao42 t245.length co42], .int .i64 1] rfl (by (try simp only [List.map_toArray, List.map_cons, List.map_nil]); first | done | rfl | (simp only [List.length_drop, List.length_take]; rfl)) ?_; (with_reducible refine (laws_heldDisk.calls kj109 _ _ t244 _ _ t245 1 t262 _ ?side1 ?side2 ?side3 ?side4 A156.out).mono ?_); (case side1 => repeat (first | exact (Kd.R_reads' HO_231000.out).2.2 | (with_reducible refine Kd.C_alloc ?_ _))); (case side2 => exact (Kd.R_reads' HO_231000.out).2.1); (case side3 => repeat (first | exact (Kd.R_reads' HO_231001.out).2.2 | (with_reducible refine Kd.C_alloc ?_ _))); (case side4 => exact (Kd.R_reads' HO_231001.out).2.1); rintro e w163 ⟨rfl, hb⟩; refine ⟨_, rfl, ?_⟩; have n0_ := Aside0.mk (Kd.R_below (by (with_reducible repeat (first | apply Kd.R_alloc)); exact HO_216000.out) hb); have n1_ := Aside0.mk (Kd.R_below (by (with_reducible repeat (first | apply Kd.R_alloc)); exact HO_216001.out) hb); have n2_ := Aside0.mk (Kd.R_below (by (with_reducible repeat (first | apply Kd.R_alloc)); exact HO_223000.out) hb); have n3_ := Aside0.mk (Kd.R_below (by (with_reducible repeat (first | apply Kd.R_alloc)); exact HO_223001.out) hb); have n4_ := Aside0.mk (Kd.R_below (by (with_reducible repeat (first | apply Kd.R_alloc)); exact HO_231000.out) hb); have n5_ := Aside0.mk (Kd.R_below (by (with_reducible repeat (first | apply Kd.R_alloc)); exact HO_231001.out) hb); have n6_ := Aside0.mk (Kd.R_below (by (with_reducible repeat (first | apply Kd.R_alloc)); exact HO_261000.out) hb); have n7_ := Aside0.mk (Kd.R_below (by (with_reducible repeat (first | apply Kd.R_alloc)); exact HO_261001.out) hb); have n8_ := Aside0.mk (blk_below (g := gb200) (o := .cells #[.slice A0_0 l0_0.length c0_0, .slice A0_1 l0_1.length c0_1] 38 (0, 0)) (by (with_reducible repeat (refine blk_alloc ?_ _)); exact BK200.out) hb); have n9_ := Aside0.mk (blk_below (g := gb215) (o := .cells #[.slice Ao21 t208.length co21, .slice Ao24 t211.length co24] 40 (0, 0)) (by (with_reducible repeat (refine blk_alloc ?_ _)); exact BK215.out) hb); have n10_ := Aside0.mk (blk_below (g := gb222) (o := .cells #[.slice Ao28 t240.length co28, .slice Ao32 t241.length co32] 40 (0, 0)) (by (with_reducible repeat (refine blk_alloc ?_ _)); exact BK222.out) hb); have n11_ := Aside0.mk (blk_below (g := gb230) (o := .cells #[.slice Ao37 t244.length co37, .slice Ao42 t245.length co42] 40 (0, 0)) (by (with_reducible repeat (refine blk_alloc ?_ _)); exact BK230.out) hb); have n12_ := Aside0.mk (blk_below (g := gb260) (o := .cells #[.slice Ao126 t253.length co126, .slice Ao132 t256.length co132] 40 (0, 0)) (by (with_reducible repeat (refine blk_alloc ?_ _)); exact BK260.out) hb); have n13_ := Aside0.mk (below_step (by repeat (first | (with_reducible first | exact HB.out | apply below_alloc | refine below_set ?_ GE200.out | refine below_set ?_ GE215.out | refine below_set ?_ GE222.out | refine below_set ?_ GE230.out | refine below_set ?_ GE260.out) | exact HB.out)) hb); clear HO_216000; clear HO_216001; clear HO_223000; clear HO_223001; clear HO_231000; clear HO_231001; clear HO_261000; clear HO_261001; clear BK200; clear BK215; clear BK222; clear BK230; clear BK260; clear HB; have HO_216000 := n0_; have HO_216001 := n1_; have HO_223000 := n2_; have HO_223001 := n3_; have HO_231000 := n4_; have HO_231001 := n5_; have HO_261000 := n6_; have HO_261001 := n7_; have BK200 := n8_; have BK215 := n9_; have BK222 := n10_; have BK230 := n11_; have BK260 := n12_; have HB := n13_; clear n0_ n1_ n2_ n3_ n4_ n5_ n6_ n7_ n8_ n9_ n10_ n11_ n12_ n13_; (try clear hb); (try clear hb2); (try clear hk); (try clear hi)))
                              go_ret
                              exact ⟨by first | rfl | (simp [errW_none, errW_some] <;> rfl) | (simp [*, errW_none, errW_some] <;> rfl), by repeat (first | (with_reducible first | exact HB.out | apply below_alloc | refine below_set ?_ GE200.out | refine below_set ?_ GE215.out | refine below_set ?_ GE222.out | refine below_set ?_ GE230.out | refine below_set ?_ GE260.out) | exact HB.out)⟩
                            · rw [if_neg c157] at H
                              have c157b0 : decide (t262 < 0) = false := decide_eq_false c157
                              clear c157
                              by_cases c164 : t262 = t243
                              · rw [if_pos c164] at H
                                have c164b0 : (t262 == t243) = true := beq_iff_eq.mpr c164
                                have c164b1 : (t262 != t243) = false := bne_eq_false_iff_eq.mpr c164
                                clear c164
                                obtain rfl := Option.some.inj H
                                have hnb165 := NB230_200.out
                                have hnc165 := NB200_230.out
                                have hnb166 := NB230_215.out
                                have hnc166 := NB215_230.out
                                have hnb167 := NB230_222.out
                                have hnc167 := NB222_230.out
                                have hnb168 := NB230_260.out
                                have hnc168 := NB260_230.out
                                have hcz169_0 : wc.cell? ⟨gb230, 0, none⟩ = some (.slice Ao37 t244.length co37) := (blk_cell BK230.out 0).trans rfl
                                have hcz169_1 : wc.cell? ⟨gb230, 1, none⟩ = some (.slice Ao42 t245.length co42) := (blk_cell BK230.out 1).trans rfl
                                have hfz169_0 := blk_frozen BK230.out 0
                                have hfz169_1 := blk_frozen BK230.out 1
                                go_wp2_with (first | ((with_reducible refine gate_callee (f := 30) rfl ?_); refine goesL_ (some 90) rfl rfl Try.func30 (by kernel_rfl) rfl #[.agg #[.slice Ao37 t244.length co37, .slice Ao42 t245.length co42], .int .i64 1] rfl (by (try simp only [List.map_toArray, List.map_cons, List.map_nil]); first | done | rfl | (simp only [List.length_drop, List.length_take]; rfl)) ?_; (with_reducible refine (laws_heldDisk.calls kj109 _ _ t244 _ _ t245 1 t262 _ ?side1 ?side2 ?side3 ?side4 A156.out).mono ?_); (case side1 => repeat (first | exact (Kd.R_reads' HO_231000.out).2.2 | (with_reducible refine Kd.C_alloc ?_ _))); (case side2 => exact (Kd.R_reads' HO_231000.out).2.1); (case side3 => repeat (first | exact (Kd.R_reads' HO_231001.out).2.2 | (with_reducible refine Kd.C_alloc ?_ _))); (case side4 => exact (Kd.R_reads' HO_231001.out).2.1); rintro e w170 ⟨rfl, hb⟩; refine ⟨_, rfl, ?_⟩; have n0_ := Aside0.mk (Kd.R_below (by (with_reducible repeat (first | apply Kd.R_alloc)); exact HO_216000.out) hb); have n1_ := Aside0.mk (Kd.R_below (by (with_reducible repeat (first | apply Kd.R_alloc)); exact HO_216001.out) hb); have n2_ := Aside0.mk (Kd.R_below (by (with_reducible repeat (first | apply Kd.R_alloc)); exact HO_223000.out) hb); have n3_ := Aside0.mk (Kd.R_below (by (with_reducible repeat (first | apply Kd.R_alloc)); exact HO_223001.out) hb); have n4_ := Aside0.mk (Kd.R_below (by (with_reducible repeat (first | apply Kd.R_alloc)); exact HO_231000.out) hb); have n5_ := Aside0.mk (Kd.R_below (by (with_reducible repeat (first | apply Kd.R_alloc)); exact HO_231001.out) hb); have n6_ := Aside0.mk (Kd.R_below (by (with_reducible repeat (first | apply Kd.R_alloc)); exact HO_261000.out) hb); have n7_ := Aside0.mk (Kd.R_below (by (with_reducible repeat (first | apply Kd.R_alloc)); exact HO_261001.out) hb); have n8_ := Aside0.mk (blk_below (g := gb200) (o := .cells #[.slice A0_0 l0_0.length c0_0, .slice A0_1 l0_1.length c0_1] 38 (0, 0)) (by (with_reducible repeat (refine blk_alloc ?_ _)); exact BK200.out) hb); have n9_ := Aside0.mk (blk_below (g := gb215) (o := .cells #[.slice Ao21 t208.length co21, .slice Ao24 t211.length co24] 40 (0, 0)) (by (with_reducible repeat (refine blk_alloc ?_ _)); exact BK215.out) hb); have n10_ := Aside0.mk (blk_below (g := gb222) (o := .cells #[.slice Ao28 t240.length co28, .slice Ao32 t241.length co32] 40 (0, 0)) (by (with_reducible repeat (refine blk_alloc ?_ _)); exact BK222.out) hb); have n11_ := Aside0.mk (blk_below (g := gb230) (o := .cells #[.slice Ao37 t244.length co37, .slice Ao42 t245.length co42] 40 (0, 0)) (by (with_reducible repeat (refine blk_alloc ?_ _)); exact BK230.out) hb); have n12_ := Aside0.mk (blk_below (g := gb260) (o := .cells #[.slice Ao126 t253.length co126, .slice Ao132 t256.length co132] 40 (0, 0)) (by (with_reducible repeat (refine blk_alloc ?_ _)); exact BK260.out) hb); have n13_ := Aside0.mk (below_step (by repeat (first | (with_reducible first | exact HB.out | apply below_alloc | refine below_set ?_ GE200.out | refine below_set ?_ GE215.out | refine below_set ?_ GE222.out | refine below_set ?_ GE230.out | refine below_set ?_ GE260.out) | exact HB.out)) hb); clear HO_216000; clear HO_216001; clear HO_223000; clear HO_223001; clear HO_231000; clear HO_231001; clear HO_261000; clear HO_261001; clear BK200; clear BK215; clear BK222; clear BK230; clear BK260; clear HB; have HO_216000 := n0_; have HO_216001 := n1_; have HO_223000 := n2_; have HO_223001 := n3_; have HO_231000 := n4_; have HO_231001 := n5_; have HO_261000 := n6_; have HO_261001 := n7_; have BK200 := n8_; have BK215 := n9_; have BK222 := n10_; have BK230 := n11_; have BK260 := n12_; have HB := n13_; clear n0_ n1_ n2_ n3_ n4_ n5_ n6_ n7_ n8_ n9_ n10_ n11_ n12_ n13_; (try clear hb); (try clear hb2); (try clear hk); (try clear hi)))
                                go_ret
                                exact ⟨by first | rfl | (simp [errW_none, errW_some] <;> rfl) | (simp [*, errW_none, errW_some] <;> rfl), by repeat (first | (with_reducible first | exact HB.out | apply below_alloc | refine below_set ?_ GE200.out | refine below_set ?_ GE215.out | refine below_set ?_ GE222.out | refine below_set ?_ GE230.out | refine below_set ?_ GE260.out) | exact HB.out)⟩
                              · rw [if_neg c164] at H
                                have c164b0 : (t262 == t243) = false := beq_eq_false_iff_ne.mpr c164
                                have c164b1 : (t262 != t243) = true := bne_iff_ne.mpr c164
                                obtain rfl := Option.some.inj H
                                have hnb171 := NB230_200.out
                                have hnc171 := NB200_230.out
                                have hnb172 := NB230_215.out
                                have hnc172 := NB215_230.out
                                have hnb173 := NB230_222.out
                                have hnc173 := NB222_230.out
                                have hnb174 := NB230_260.out
                                have hnc174 := NB260_230.out
                                have hcz175_0 : wc.cell? ⟨gb230, 0, none⟩ = some (.slice Ao37 t244.length co37) := (blk_cell BK230.out 0).trans rfl
                                have hcz175_1 : wc.cell? ⟨gb230, 1, none⟩ = some (.slice Ao42 t245.length co42) := (blk_cell BK230.out 1).trans rfl
                                have hfz175_0 := blk_frozen BK230.out 0
                                have hfz175_1 := blk_frozen BK230.out 1
                                go_wp2_with (first | ((with_reducible refine gate_callee (f := 30) rfl ?_); refine goesL_ (some 90) rfl rfl Try.func30 (by kernel_rfl) rfl #[.agg #[.slice Ao37 t244.length co37, .slice Ao42 t245.length co42], .int .i64 1] rfl (by (try simp only [List.map_toArray, List.map_cons, List.map_nil]); first | done | rfl | (simp only [List.length_drop, List.length_take]; rfl)) ?_; (with_reducible refine (laws_heldDisk.calls kj109 _ _ t244 _ _ t245 1 t262 _ ?side1 ?side2 ?side3 ?side4 A156.out).mono ?_); (case side1 => repeat (first | exact (Kd.R_reads' HO_231000.out).2.2 | (with_reducible refine Kd.C_alloc ?_ _))); (case side2 => exact (Kd.R_reads' HO_231000.out).2.1); (case side3 => repeat (first | exact (Kd.R_reads' HO_231001.out).2.2 | (with_reducible refine Kd.C_alloc ?_ _))); (case side4 => exact (Kd.R_reads' HO_231001.out).2.1); rintro e w176 ⟨rfl, hb⟩; refine ⟨_, rfl, ?_⟩; have n0_ := Aside0.mk (Kd.R_below (by (with_reducible repeat (first | apply Kd.R_alloc)); exact HO_216000.out) hb); have n1_ := Aside0.mk (Kd.R_below (by (with_reducible repeat (first | apply Kd.R_alloc)); exact HO_216001.out) hb); have n2_ := Aside0.mk (Kd.R_below (by (with_reducible repeat (first | apply Kd.R_alloc)); exact HO_223000.out) hb); have n3_ := Aside0.mk (Kd.R_below (by (with_reducible repeat (first | apply Kd.R_alloc)); exact HO_223001.out) hb); have n4_ := Aside0.mk (Kd.R_below (by (with_reducible repeat (first | apply Kd.R_alloc)); exact HO_231000.out) hb); have n5_ := Aside0.mk (Kd.R_below (by (with_reducible repeat (first | apply Kd.R_alloc)); exact HO_231001.out) hb); have n6_ := Aside0.mk (Kd.R_below (by (with_reducible repeat (first | apply Kd.R_alloc)); exact HO_261000.out) hb); have n7_ := Aside0.mk (Kd.R_below (by (with_reducible repeat (first | apply Kd.R_alloc)); exact HO_261001.out) hb); have n8_ := Aside0.mk (blk_below (g := gb200) (o := .cells #[.slice A0_0 l0_0.length c0_0, .slice A0_1 l0_1.length c0_1] 38 (0, 0)) (by (with_reducible repeat (refine blk_alloc ?_ _)); exact BK200.out) hb); have n9_ := Aside0.mk (blk_below (g := gb215) (o := .cells #[.slice Ao21 t208.length co21, .slice Ao24 t211.length co24] 40 (0, 0)) (by (with_reducible repeat (refine blk_alloc ?_ _)); exact BK215.out) hb); have n10_ := Aside0.mk (blk_below (g := gb222) (o := .cells #[.slice Ao28 t240.length co28, .slice Ao32 t241.length co32] 40 (0, 0)) (by (with_reducible repeat (refine blk_alloc ?_ _)); exact BK222.out) hb); have n11_ := Aside0.mk (blk_below (g := gb230) (o := .cells #[.slice Ao37 t244.length co37, .slice Ao42 t245.length co42] 40 (0, 0)) (by (with_reducible repeat (refine blk_alloc ?_ _)); exact BK230.out) hb); have n12_ := Aside0.mk (blk_below (g := gb260) (o := .cells #[.slice Ao126 t253.length co126, .slice Ao132 t256.length co132] 40 (0, 0)) (by (with_reducible repeat (refine blk_alloc ?_ _)); exact BK260.out) hb); have n13_ := Aside0.mk (below_step (by repeat (first | (with_reducible first | exact HB.out | apply below_alloc | refine below_set ?_ GE200.out | refine below_set ?_ GE215.out | refine below_set ?_ GE222.out | refine below_set ?_ GE230.out | refine below_set ?_ GE260.out) | exact HB.out)) hb); clear HO_216000; clear HO_216001; clear HO_223000; clear HO_223001; clear HO_231000; clear HO_231001; clear HO_261000; clear HO_261001; clear BK200; clear BK215; clear BK222; clear BK230; clear BK260; clear HB; have HO_216000 := n0_; have HO_216001 := n1_; have HO_223000 := n2_; have HO_223001 := n3_; have HO_231000 := n4_; have HO_231001 := n5_; have HO_261000 := n6_; have HO_261001 := n7_; have BK200 := n8_; have BK215 := n9_; have BK222 := n10_; have BK230 := n11_; have BK260 := n12_; have HB := n13_; clear n0_ n1_ n2_ n3_ n4_ n5_ n6_ n7_ n8_ n9_ n10_ n11_ n12_ n13_; (try clear hb); (try clear hb2); (try clear hk); (try clear hi)))
                                go_ret
                                exact ⟨by first | rfl | (simp [errW_none, errW_some] <;> rfl) | (simp [*, errW_none, errW_some] <;> rfl), by repeat (first | (with_reducible first | exact HB.out | apply below_alloc | refine below_set ?_ GE200.out | refine below_set ?_ GE215.out | refine below_set ?_ GE222.out | refine below_set ?_ GE230.out | refine below_set ?_ GE260.out) | exact HB.out)⟩
                    · rw [if_neg c107] at H
                      have c107b0 : (t246 == t243) = false := beq_eq_false_iff_ne.mpr c107
                      have c107b1 : (t246 != t243) = true := bne_iff_ne.mpr c107
                      obtain rfl := Option.some.inj H
                      have hnb177 := NB230_200.out
                      have hnc177 := NB200_230.out
                      have hnb178 := NB230_215.out
                      have hnc178 := NB215_230.out
                      have hnb179 := NB230_222.out
                      have hnc179 := NB222_230.out
                      have hcz180_0 : wc.cell? ⟨gb230, 0, none⟩ = some (.slice Ao37 t223.length co37) := (blk_cell BK230.out 0).trans rfl
                      have hcz180_1 : wc.cell? ⟨gb230, 1, none⟩ = some (.slice Ao42 t226.length co42) := (blk_cell BK230.out 1).trans rfl
                      have hfz180_0 := blk_frozen BK230.out 0
                      have hfz180_1 := blk_frozen BK230.out 1
                      go_wp2_with (first | ((with_reducible refine gate_callee (f := 29) rfl ?_); refine goesL_ (some 64) rfl rfl Try.func29 (by kernel_rfl) rfl #[.agg #[.slice Ao37 t223.length co37, .slice Ao42 t226.length co42], .int .i64 1] rfl (by (try simp only [List.map_toArray, List.map_cons, List.map_nil]); first | done | rfl | (simp only [List.length_drop, List.length_take]; rfl)) ?_; (with_reducible refine (laws_markDisk.calls kj65 (fun k_ => some k_ = (.slice Ao37 t223.length co37 : Value).ownBlock) (.slice Ao37 t223.length co37) t223 (fun k_ => some k_ = (.slice Ao42 t226.length co42 : Value).ownBlock) (.slice Ao42 t226.length co42) t226 1 t243 t244 t245 w _ ?side1 ?side2 ?side3 ?side4 ?side5 A97.out).mono ?_); (case side1 => repeat (first | (with_reducible first | exact HB.out | apply below_alloc | refine below_set ?_ GE200.out | refine below_set ?_ GE215.out | refine below_set ?_ GE222.out | refine below_set ?_ GE230.out) | exact HB.out)); (case side2 => exact Kd.R_tight rfl HO_231000.out); (case side3 => exact fun k_ e_ => (HO_231000.out.1 k_ e_.symm).2.2.2.2); (case side4 => exact Kd.R_tight rfl HO_231001.out); (case side5 => exact fun k_ e_ => (HO_231001.out.1 k_ e_.symm).2.2.2.2); rintro e w181 ⟨rfl, hy0, hy1, hb, hkp⟩; refine ⟨_, rfl, ?_⟩; have n0_ := Aside0.mk (Kd.R_mono (ok' := fun k_ => some k_ ≠ (.slice Ao24 t211.length co24 : Value).ownBlock ∧ some k_ ≠ (.slice Ao28 t240.length co28 : Value).ownBlock ∧ some k_ ≠ (.slice Ao32 t241.length co32 : Value).ownBlock ∧ some k_ ≠ (.slice Ao37 t223.length co37 : Value).ownBlock ∧ some k_ ≠ (.slice Ao42 t226.length co42 : Value).ownBlock) (Kd.R_keptB (HO_216000.out) hkp (fun k_ hk_ hs_ => Or.elim hs_ (fun e_ => (hk_.2.2.2.1) e_) (fun e_ => (hk_.2.2.2.2) e_))) (fun k_ hk_ => ⟨hk_.1.1, hk_.1.2.1, hk_.1.2.2.1, hk_.1.2.2.2.1, hk_.1.2.2.2.2⟩)); have n1_ := Aside0.mk (Kd.R_mono (ok' := fun k_ => some k_ ≠ (.slice Ao21 t208.length co21 : Value).ownBlock ∧ some k_ ≠ (.slice Ao28 t240.length co28 : Value).ownBlock ∧ some k_ ≠ (.slice Ao32 t241.length co32 : Value).ownBlock ∧ some k_ ≠ (.slice Ao37 t223.length co37 : Value).ownBlock ∧ some k_ ≠ (.slice Ao42 t226.length co42 : Value).ownBlock) (Kd.R_keptB (HO_216001.out) hkp (fun k_ hk_ hs_ => Or.elim hs_ (fun e_ => (hk_.2.2.2.1) e_) (fun e_ => (hk_.2.2.2.2) e_))) (fun k_ hk_ => ⟨hk_.1.1, hk_.1.2.1, hk_.1.2.2.1, hk_.1.2.2.2.1, hk_.1.2.2.2.2⟩)); have n2_ := Aside0.mk (Kd.R_mono (ok' := fun k_ => some k_ ≠ (.slice Ao21 t208.length co21 : Value).ownBlock ∧ some k_ ≠ (.slice Ao24 t211.length co24 : Value).ownBlock ∧ some k_ ≠ (.slice Ao32 t241.length co32 : Value).ownBlock ∧ some k_ ≠ (.slice Ao37 t223.length co37 : Value).ownBlock ∧ some k_ ≠ (.slice Ao42 t226.length co42 : Value).ownBlock) (Kd.R_keptB (HO_223000.out) hkp (fun k_ hk_ hs_ => Or.elim hs_ (fun e_ => (hk_.2.2.2.1) e_) (fun e_ => (hk_.2.2.2.2) e_))) (fun k_ hk_ => ⟨hk_.1.1, hk_.1.2.1, hk_.1.2.2.1, hk_.1.2.2.2.1, hk_.1.2.2.2.2⟩)); have n3_ := Aside0.mk (Kd.R_mono (ok' := fun k_ => some k_ ≠ (.slice Ao21 t208.length co21 : Value).ownBlock ∧ some k_ ≠ (.slice Ao24 t211.length co24 : Value).ownBlock ∧ some k_ ≠ (.slice Ao28 t240.length co28 : Value).ownBlock ∧ some k_ ≠ (.slice Ao37 t223.length co37 : Value).ownBlock ∧ some k_ ≠ (.slice Ao42 t226.length co42 : Value).ownBlock) (Kd.R_keptB (HO_223001.out) hkp (fun k_ hk_ hs_ => Or.elim hs_ (fun e_ => (hk_.2.2.2.1) e_) (fun e_ => (hk_.2.2.2.2) e_))) (fun k_ hk_ => ⟨hk_.1.1, hk_.1.2.1, hk_.1.2.2.1, hk_.1.2.2.2.1, hk_.1.2.2.2.2⟩)); have n4_ := Aside0.mk (Kd.R_reok rfl hy0 (fun k_ e_ => HO_231000.out.1 k_ e_)); have n5_ := Aside0.mk (Kd.R_reok rfl hy1 (fun k_ e_ => HO_231001.out.1 k_ e_)); have n6_ := Aside0.mk (blk_kept (by (with_reducible repeat (refine blk_alloc ?_ _)); exact BK200.out) hkp (fun hs_ => Or.elim hs_ (fun e_ => (fun e_ => (Kd.R_ne HO_231000.out BK200.out (by decide)) e_) e_) (fun e_ => (fun e_ => (Kd.R_ne HO_231001.out BK200.out (by decide)) e_) e_))); have n7_ := Aside0.mk (blk_kept (by (with_reducible repeat (refine blk_alloc ?_ _)); exact BK215.out) hkp (fun hs_ => Or.elim hs_ (fun e_ => (fun e_ => (Kd.R_ne HO_231000.out BK215.out (by decide)) e_) e_) (fun e_ => (fun e_ => (Kd.R_ne HO_231001.out BK215.out (by decide)) e_) e_))); have n8_ := Aside0.mk (blk_kept (by (with_reducible repeat (refine blk_alloc ?_ _)); exact BK222.out) hkp (fun hs_ => Or.elim hs_ (fun e_ => (fun e_ => (Kd.R_ne HO_231000.out BK222.out (by decide)) e_) e_) (fun e_ => (fun e_ => (Kd.R_ne HO_231001.out BK222.out (by decide)) e_) e_))); have n9_ := Aside0.mk (blk_kept (by (with_reducible repeat (refine blk_alloc ?_ _)); exact BK230.out) hkp (fun hs_ => Or.elim hs_ (fun e_ => (fun e_ => (Kd.R_ne HO_231000.out BK230.out (by decide)) e_) e_) (fun e_ => (fun e_ => (Kd.R_ne HO_231001.out BK230.out (by decide)) e_) e_))); have n10_ := Aside0.mk (hb); clear HO_216000; clear HO_216001; clear HO_223000; clear HO_223001; clear HO_231000; clear HO_231001; clear BK200; clear BK215; clear BK222; clear BK230; clear HB; have HO_216000 := n0_; have HO_216001 := n1_; have HO_223000 := n2_; have HO_223001 := n3_; have HO_231000 := n4_; have HO_231001 := n5_; have BK200 := n6_; have BK215 := n7_; have BK222 := n8_; have BK230 := n9_; have HB := n10_; clear n0_ n1_ n2_ n3_ n4_ n5_ n6_ n7_ n8_ n9_ n10_; (try clear hb); (try clear hkp); (try clear hy0); (try clear hy1); have hcz182_0 : w181.cell? ⟨gb230, 0, none⟩ = some (.slice Ao37 t223.length co37) := (blk_cell BK230.out 0).trans rfl; have hcz182_1 : w181.cell? ⟨gb230, 1, none⟩ = some (.slice Ao42 t226.length co42) := (blk_cell BK230.out 1).trans rfl; have hfz182_0 := blk_frozen BK230.out 0; have hfz182_1 := blk_frozen BK230.out 1) | ((with_reducible refine gate_callee (f := 30) rfl ?_); refine goesL_ (some 67) rfl rfl Try.func30 (by kernel_rfl) rfl #[.agg #[.slice Ao37 t244.length co37, .slice Ao42 t245.length co42], .int .i64 1] rfl (by (try simp only [List.map_toArray, List.map_cons, List.map_nil]); first | done | (rw [show t244.length = t223.length from (Kd.R_reads' HO_231000.out).1.symm, show t245.length = t226.length from (Kd.R_reads' HO_231001.out).1.symm] <;> rfl) | rfl | (simp only [List.length_drop, List.length_take]; rfl)) ?_; (with_reducible refine (laws_heldDisk.calls kj65 _ _ t244 _ _ t245 1 t246 _ ?side1 ?side2 ?side3 ?side4 A98.out).mono ?_); (case side1 => repeat (first | exact (Kd.R_reads' HO_231000.out).2.2 | (with_reducible refine Kd.C_alloc ?_ _))); (case side2 => rw [show t244.length = t223.length from (Kd.R_reads' HO_231000.out).1.symm]; exact (Kd.R_reads' HO_231000.out).2.1); (case side3 => repeat (first | exact (Kd.R_reads' HO_231001.out).2.2 | (with_reducible refine Kd.C_alloc ?_ _))); (case side4 => rw [show t245.length = t226.length from (Kd.R_reads' HO_231001.out).1.symm]; exact (Kd.R_reads' HO_231001.out).2.1); rintro e w183 ⟨rfl, hb⟩; refine ⟨_, rfl, ?_⟩; have n0_ := Aside0.mk (Kd.R_below (by (with_reducible repeat (first | apply Kd.R_alloc)); exact HO_216000.out) hb); have n1_ := Aside0.mk (Kd.R_below (by (with_reducible repeat (first | apply Kd.R_alloc)); exact HO_216001.out) hb); have n2_ := Aside0.mk (Kd.R_below (by (with_reducible repeat (first | apply Kd.R_alloc)); exact HO_223000.out) hb); have n3_ := Aside0.mk (Kd.R_below (by (with_reducible repeat (first | apply Kd.R_alloc)); exact HO_223001.out) hb); have n4_ := Aside0.mk (Kd.R_below (by (with_reducible repeat (first | apply Kd.R_alloc)); exact HO_231000.out) hb); have n5_ := Aside0.mk (Kd.R_below (by (with_reducible repeat (first | apply Kd.R_alloc)); exact HO_231001.out) hb); have n6_ := Aside0.mk (blk_below (g := gb200) (o := .cells #[.slice A0_0 l0_0.length c0_0, .slice A0_1 l0_1.length c0_1] 38 (0, 0)) (by (with_reducible repeat (refine blk_alloc ?_ _)); exact BK200.out) hb); have n7_ := Aside0.mk (blk_below (g := gb215) (o := .cells #[.slice Ao21 t208.length co21, .slice Ao24 t211.length co24] 40 (0, 0)) (by (with_reducible repeat (refine blk_alloc ?_ _)); exact BK215.out) hb); have n8_ := Aside0.mk (blk_below (g := gb222) (o := .cells #[.slice Ao28 t240.length co28, .slice Ao32 t241.length co32] 40 (0, 0)) (by (with_reducible repeat (refine blk_alloc ?_ _)); exact BK222.out) hb); have n9_ := Aside0.mk (blk_below (g := gb230) (o := .cells #[.slice Ao37 t223.length co37, .slice Ao42 t226.length co42] 40 (0, 0)) (by (with_reducible repeat (refine blk_alloc ?_ _)); exact BK230.out) hb); have n10_ := Aside0.mk (below_step (by repeat (first | (with_reducible first | exact HB.out | apply below_alloc | refine below_set ?_ GE200.out | refine below_set ?_ GE215.out | refine below_set ?_ GE222.out | refine below_set ?_ GE230.out) | exact HB.out)) hb); clear HO_216000; clear HO_216001; clear HO_223000; clear HO_223001; clear HO_231000; clear HO_231001; clear BK200; clear BK215; clear BK222; clear BK230; clear HB; have HO_216000 := n0_; have HO_216001 := n1_; have HO_223000 := n2_; have HO_223001 := n3_; have HO_231000 := n4_; have HO_231001 := n5_; have BK200 := n6_; have BK215 := n7_; have BK222 := n8_; have BK230 := n9_; have HB := n10_; clear n0_ n1_ n2_ n3_ n4_ n5_ n6_ n7_ n8_ n9_ n10_; (try clear hb); (try clear hb2); (try clear hk); (try clear hi)))
                      go_ret
                      exact ⟨by first | rfl | (simp [errW_none, errW_some] <;> rfl) | (simp [*, errW_none, errW_some] <;> rfl), by repeat (first | (with_reducible first | exact HB.out | apply below_alloc | refine below_set ?_ GE200.out | refine below_set ?_ GE215.out | refine below_set ?_ GE222.out | refine below_set ?_ GE230.out) | exact HB.out)⟩
          · replace c64 := Bool.eq_false_iff.mpr c64
            subst c64
            have H1 : (some false) = some r := by rw [if_neg (show ¬ (false = true) by decide)] at H; exact H
            clear H
            have H := H1
            clear H1
            obtain rfl := Option.some.inj H
            try go_wp2
            have n0_ := Aside0.mk (Kd.R_drew HO_216000.out)
            have n1_ := Aside0.mk (Kd.R_drew HO_216001.out)
            have n2_ := Aside0.mk (Kd.R_drew HO_223000.out)
            have n3_ := Aside0.mk (Kd.R_drew HO_223001.out)
            have n4_ := Aside0.mk (Kd.R_drew HO_231000.out)
            have n5_ := Aside0.mk (Kd.R_drew HO_231001.out)
            have n6_ := Aside0.mk (blk_drew BK200.out)
            have n7_ := Aside0.mk (blk_drew BK215.out)
            have n8_ := Aside0.mk (blk_drew BK222.out)
            have n9_ := Aside0.mk (blk_drew BK230.out)
            have n10_ := Aside0.mk (below_drew1 HB.out)
            clear HO_216000
            clear HO_216001
            clear HO_223000
            clear HO_223001
            clear HO_231000
            clear HO_231001
            clear BK200
            clear BK215
            clear BK222
            clear BK230
            clear HB
            have HO_216000 := n0_
            have HO_216001 := n1_
            have HO_223000 := n2_
            have HO_223001 := n3_
            have HO_231000 := n4_
            have HO_231001 := n5_
            have BK200 := n6_
            have BK215 := n7_
            have BK222 := n8_
            have BK230 := n9_
            have HB := n10_
            clear n0_ n1_ n2_ n3_ n4_ n5_ n6_ n7_ n8_ n9_ n10_
            refine start_ (n := 5) (S := fun w' => w'.cell? ⟨gb222, 0, none⟩ = some (.slice Ao28 t216.length co28) ∧ w'.cell? ⟨gb222, 1, none⟩ = some (.slice Ao32 t219.length co32) ∧ w'.cell? ⟨gb200, 0, none⟩ = some (.slice A0_0 l0_0.length c0_0) ∧ w'.cell? ⟨gb200, 1, none⟩ = some (.slice A0_1 l0_1.length c0_1)) (ds := []) #[false, false, false, false, false] (by kernel_rfl) rfl rfl ⟨(blk_cell BK222.out 0).trans rfl, (blk_cell BK222.out 1).trans rfl, (blk_cell BK200.out 0).trans rfl, (blk_cell BK200.out 1).trans rfl⟩ (fun hHeld => ?_)
            generalize wc.drew = w184 at HO_216000 HO_216001 HO_223000 HO_223001 HO_231000 HO_231001 BK200 BK215 BK222 BK230 HB hHeld ⊢
            refine take_ (i := 0) (N := some 41) (v := ?_) (a' := ?_) #[true, false, false, false, false] rfl rfl (by kernel_rfl) (fun _ _ _ h => h) (Or.inl ⟨by rfl, ?_⟩) hHeld ?_ ?_
            rotate_left
            · rintro w' ⟨s0, s1, s2, s3⟩
              go_simp
              with_reducible rfl
            rotate_left
            · simp only [Act.put, List.setIfInBounds_toArray, List.set_cons_zero, List.set_cons_succ, i64_w, i32_w]
              rfl
            refine take_ (i := 1) (N := some 42) (v := ?_) (a' := ?_) #[true, true, false, false, false] rfl rfl (by kernel_rfl) (fun _ _ _ h => h) (Or.inl ⟨by rfl, ?_⟩) hHeld ?_ ?_
            rotate_left
            · rintro w' ⟨s0, s1, s2, s3⟩
              go_simp
              with_reducible rfl
            rotate_left
            · simp only [Act.put, List.setIfInBounds_toArray, List.set_cons_zero, List.set_cons_succ, i64_w, i32_w]
              rfl
            refine one_ (i := 2) (N := some 43) #[true, true, true, false, false] rfl rfl (by kernel_rfl) (by decide) (fun K hK => ?_)
            refine goes_ Try.func26 (by kernel_rfl) rfl #[.agg #[.slice A0_0 l0_0.length c0_0, .slice A0_1 l0_1.length c0_1]] (by rfl) rfl rfl (by (try simp only [List.map_toArray, List.map_cons, List.map_nil]); first | done | rfl | (simp only [List.length_drop, List.length_take]; rfl)) ?_
            with_reducible refine (laws_toDisk.calls kj10 _ _ l0_0 _ _ l0_1 t232 t235 _ ?side1 ?side2 ?side3 ?side4 A62.out).mono ?_
            (case side1 => repeat (first | exact (Kd.C_below HR0_0.out HB.out) | (with_reducible refine Kd.C_alloc ?_ _)))
            (case side2 => exact HC0_0.out)
            (case side3 => repeat (first | exact (Kd.C_below HR0_1.out HB.out) | (with_reducible refine Kd.C_alloc ?_ _)))
            (case side4 => exact HC0_1.out)
            rintro e w185 ⟨v233, v236, rfl, ho0, ho1, hb⟩
            refine ⟨_, rfl, ?_⟩
            have n0_ := Aside0.mk (Kd.R_mono (Kd.R_told (Kd.R_told (Kd.R_old (by (with_reducible repeat (first | apply Kd.R_alloc)); exact HO_216000.out) hb) (Kd.R_base ho0)) (Kd.R_base ho1)) (fun _ h_ => h_.1))
            have n1_ := Aside0.mk (Kd.R_mono (Kd.R_told (Kd.R_told (Kd.R_old (by (with_reducible repeat (first | apply Kd.R_alloc)); exact HO_216001.out) hb) (Kd.R_base ho0)) (Kd.R_base ho1)) (fun _ h_ => h_.1))
            have n2_ := Aside0.mk (Kd.R_mono (Kd.R_told (Kd.R_told (Kd.R_old (by (with_reducible repeat (first | apply Kd.R_alloc)); exact HO_223000.out) hb) (Kd.R_base ho0)) (Kd.R_base ho1)) (fun _ h_ => h_.1))
            have n3_ := Aside0.mk (Kd.R_mono (Kd.R_told (Kd.R_told (Kd.R_old (by (with_reducible repeat (first | apply Kd.R_alloc)); exact HO_223001.out) hb) (Kd.R_base ho0)) (Kd.R_base ho1)) (fun _ h_ => h_.1))
            have n4_ := Aside0.mk (Kd.R_mono (Kd.R_told (Kd.R_told (Kd.R_old (by (with_reducible repeat (first | apply Kd.R_alloc)); exact HO_231000.out) hb) (Kd.R_base ho0)) (Kd.R_base ho1)) (fun _ h_ => h_.1))
            have n5_ := Aside0.mk (Kd.R_mono (Kd.R_told (Kd.R_told (Kd.R_old (by (with_reducible repeat (first | apply Kd.R_alloc)); exact HO_231001.out) hb) (Kd.R_base ho0)) (Kd.R_base ho1)) (fun _ h_ => h_.1))
            have n6_ := Aside0.mk (Kd.R_lower (Kd.R_new' (Kd.R_new' (Kd.R_new' (Kd.R_new' (Kd.R_new' (Kd.R_new' ho0 (Kd.R_lt (by (with_reducible repeat (first | apply Kd.R_alloc)); exact HO_216000.out))) (Kd.R_lt (by (with_reducible repeat (first | apply Kd.R_alloc)); exact HO_216001.out))) (Kd.R_lt (by (with_reducible repeat (first | apply Kd.R_alloc)); exact HO_223000.out))) (Kd.R_lt (by (with_reducible repeat (first | apply Kd.R_alloc)); exact HO_223001.out))) (Kd.R_lt (by (with_reducible repeat (first | apply Kd.R_alloc)); exact HO_231000.out))) (Kd.R_lt (by (with_reducible repeat (first | apply Kd.R_alloc)); exact HO_231001.out))) (below_size (by repeat (first | (with_reducible first | exact HB.out | apply below_alloc | refine below_set ?_ GE200.out | refine below_set ?_ GE215.out | refine below_set ?_ GE222.out | refine below_set ?_ GE230.out) | exact HB.out))))
            have n7_ := Aside0.mk (Kd.R_lower (Kd.R_new' (Kd.R_new' (Kd.R_new' (Kd.R_new' (Kd.R_new' (Kd.R_new' ho1 (Kd.R_lt (by (with_reducible repeat (first | apply Kd.R_alloc)); exact HO_216000.out))) (Kd.R_lt (by (with_reducible repeat (first | apply Kd.R_alloc)); exact HO_216001.out))) (Kd.R_lt (by (with_reducible repeat (first | apply Kd.R_alloc)); exact HO_223000.out))) (Kd.R_lt (by (with_reducible repeat (first | apply Kd.R_alloc)); exact HO_223001.out))) (Kd.R_lt (by (with_reducible repeat (first | apply Kd.R_alloc)); exact HO_231000.out))) (Kd.R_lt (by (with_reducible repeat (first | apply Kd.R_alloc)); exact HO_231001.out))) (below_size (by repeat (first | (with_reducible first | exact HB.out | apply below_alloc | refine below_set ?_ GE200.out | refine below_set ?_ GE215.out | refine below_set ?_ GE222.out | refine below_set ?_ GE230.out) | exact HB.out))))
            have n8_ := Aside0.mk (blk_below (g := gb200) (o := .cells #[.slice A0_0 l0_0.length c0_0, .slice A0_1 l0_1.length c0_1] 38 (0, 0)) (by (with_reducible repeat (refine blk_alloc ?_ _)); exact BK200.out) hb)
            have n9_ := Aside0.mk (blk_below (g := gb215) (o := .cells #[.slice Ao21 t208.length co21, .slice Ao24 t211.length co24] 40 (0, 0)) (by (with_reducible repeat (refine blk_alloc ?_ _)); exact BK215.out) hb)
            have n10_ := Aside0.mk (blk_below (g := gb222) (o := .cells #[.slice Ao28 t216.length co28, .slice Ao32 t219.length co32] 40 (0, 0)) (by (with_reducible repeat (refine blk_alloc ?_ _)); exact BK222.out) hb)
            have n11_ := Aside0.mk (blk_below (g := gb230) (o := .cells #[.slice Ao37 t223.length co37, .slice Ao42 t226.length co42] 40 (0, 0)) (by (with_reducible repeat (refine blk_alloc ?_ _)); exact BK230.out) hb)
            have n12_ := Aside0.mk (below_step (by repeat (first | (with_reducible first | exact HB.out | apply below_alloc | refine below_set ?_ GE200.out | refine below_set ?_ GE215.out | refine below_set ?_ GE222.out | refine below_set ?_ GE230.out) | exact HB.out)) hb)
            clear HO_216000
            clear HO_216001
            clear HO_223000
            clear HO_223001
            clear HO_231000
            clear HO_231001
            clear BK200
            clear BK215
            clear BK222
            clear BK230
            clear HB
            have HO_216000 := n0_
            have HO_216001 := n1_
            have HO_223000 := n2_
            have HO_223001 := n3_
            have HO_231000 := n4_
            have HO_231001 := n5_
            have HO234 := n6_
            have HO237 := n7_
            have BK200 := n8_
            have BK215 := n9_
            have BK222 := n10_
            have BK230 := n11_
            have HB := n12_
            clear n0_ n1_ n2_ n3_ n4_ n5_ n6_ n7_ n8_ n9_ n10_ n11_ n12_
            (try clear hb)
            (try clear hb2)
            (try clear hk)
            (try clear hi)
            (try clear ho0)
            (try clear ho1)
            obtain ⟨Ao186, co186, eo186⟩ := Kd.R_slice HO234.out
            (first | subst eo186 | (injection eo186 with f1_ f2_ f3_; have f4_ := f1_.symm; have f5_ := f3_.symm; clear f1_ f2_ f3_; subst f4_; subst f5_))
            obtain ⟨Ao187, co187, eo187⟩ := Kd.R_slice HO237.out
            (first | subst eo187 | (injection eo187 with f1_ f2_ f3_; have f4_ := f1_.symm; have f5_ := f3_.symm; clear f1_ f2_ f3_; subst f4_; subst f5_))
            refine hK.out _ _ ⟨(blk_cell BK222.out 0).trans rfl, (blk_cell BK222.out 1).trans rfl, (blk_cell BK200.out 0).trans rfl, (blk_cell BK200.out 1).trans rfl⟩ (fun hHeld => ?_)
            clear hK K
            refine norm_ (a' := ?_) ?_ ?_
            rotate_left
            · show Act.put _ (some 43) _ = _
              simp only [Act.put, List.setIfInBounds_toArray, List.set_cons_zero, List.set_cons_succ, i64_w, i32_w]
              rfl
            refine one_ (i := 3) (N := some 44) #[true, true, true, true, false] rfl rfl (by kernel_rfl) (by decide) (fun K hK => ?_)
            refine goes_ Try.func28 (by kernel_rfl) rfl #[.agg #[.slice Ao28 t216.length co28, .slice Ao32 t219.length co32], .agg #[.slice Ao186 t232.length co186, .slice Ao187 t235.length co187]] (by rfl) rfl rfl (by (try simp only [List.map_toArray, List.map_cons, List.map_nil]); first | done | rfl | (simp only [List.length_drop, List.length_take]; rfl)) ?_
            with_reducible refine (laws_eqDisk.calls kj10 _ _ t216 _ _ t219 _ _ t232 _ _ t235 false _ ?side1 ?side2 ?side3 ?side4 ?side5 ?side6 ?side7 ?side8 A63.out).mono ?_
            (case side1 => repeat (first | exact (Kd.R_reads' HO_223000.out).2.2 | (with_reducible refine Kd.C_alloc ?_ _)))
            (case side2 => exact (Kd.R_reads' HO_223000.out).2.1)
            (case side3 => repeat (first | exact (Kd.R_reads' HO_223001.out).2.2 | (with_reducible refine Kd.C_alloc ?_ _)))
            (case side4 => exact (Kd.R_reads' HO_223001.out).2.1)
            (case side5 => repeat (first | exact (Kd.R_reads' HO234.out).2.2 | (with_reducible refine Kd.C_alloc ?_ _)))
            (case side6 => exact (Kd.R_reads' HO234.out).2.1)
            (case side7 => repeat (first | exact (Kd.R_reads' HO237.out).2.2 | (with_reducible refine Kd.C_alloc ?_ _)))
            (case side8 => exact (Kd.R_reads' HO237.out).2.1)
            rintro e w188 ⟨rfl, hb⟩
            refine ⟨_, rfl, ?_⟩
            have n0_ := Aside0.mk (Kd.R_below (by (with_reducible repeat (first | apply Kd.R_alloc)); exact HO_216000.out) hb)
            have n1_ := Aside0.mk (Kd.R_below (by (with_reducible repeat (first | apply Kd.R_alloc)); exact HO_216001.out) hb)
            have n2_ := Aside0.mk (Kd.R_below (by (with_reducible repeat (first | apply Kd.R_alloc)); exact HO_223000.out) hb)
            have n3_ := Aside0.mk (Kd.R_below (by (with_reducible repeat (first | apply Kd.R_alloc)); exact HO_223001.out) hb)
            have n4_ := Aside0.mk (Kd.R_below (by (with_reducible repeat (first | apply Kd.R_alloc)); exact HO_231000.out) hb)
            have n5_ := Aside0.mk (Kd.R_below (by (with_reducible repeat (first | apply Kd.R_alloc)); exact HO_231001.out) hb)
            have n6_ := Aside0.mk (Kd.R_below (by (with_reducible repeat (first | apply Kd.R_alloc)); exact HO234.out) hb)
            have n7_ := Aside0.mk (Kd.R_below (by (with_reducible repeat (first | apply Kd.R_alloc)); exact HO237.out) hb)
            have n8_ := Aside0.mk (blk_below (g := gb200) (o := .cells #[.slice A0_0 l0_0.length c0_0, .slice A0_1 l0_1.length c0_1] 38 (0, 0)) (by (with_reducible repeat (refine blk_alloc ?_ _)); exact BK200.out) hb)
            have n9_ := Aside0.mk (blk_below (g := gb215) (o := .cells #[.slice Ao21 t208.length co21, .slice Ao24 t211.length co24] 40 (0, 0)) (by (with_reducible repeat (refine blk_alloc ?_ _)); exact BK215.out) hb)
            have n10_ := Aside0.mk (blk_below (g := gb222) (o := .cells #[.slice Ao28 t216.length co28, .slice Ao32 t219.length co32] 40 (0, 0)) (by (with_reducible repeat (refine blk_alloc ?_ _)); exact BK222.out) hb)
            have n11_ := Aside0.mk (blk_below (g := gb230) (o := .cells #[.slice Ao37 t223.length co37, .slice Ao42 t226.length co42] 40 (0, 0)) (by (with_reducible repeat (refine blk_alloc ?_ _)); exact BK230.out) hb)
            have n12_ := Aside0.mk (below_step (by repeat (first | (with_reducible first | exact HB.out | apply below_alloc | refine below_set ?_ GE200.out | refine below_set ?_ GE215.out | refine below_set ?_ GE222.out | refine below_set ?_ GE230.out) | exact HB.out)) hb)
            clear HO_216000
            clear HO_216001
            clear HO_223000
            clear HO_223001
            clear HO_231000
            clear HO_231001
            clear HO234
            clear HO237
            clear BK200
            clear BK215
            clear BK222
            clear BK230
            clear HB
            have HO_216000 := n0_
            have HO_216001 := n1_
            have HO_223000 := n2_
            have HO_223001 := n3_
            have HO_231000 := n4_
            have HO_231001 := n5_
            have HO234 := n6_
            have HO237 := n7_
            have BK200 := n8_
            have BK215 := n9_
            have BK222 := n10_
            have BK230 := n11_
            have HB := n12_
            clear n0_ n1_ n2_ n3_ n4_ n5_ n6_ n7_ n8_ n9_ n10_ n11_ n12_
            (try clear hb)
            (try clear hb2)
            (try clear hk)
            (try clear hi)
            refine hK.out _ _ ⟨(blk_cell BK222.out 0).trans rfl, (blk_cell BK222.out 1).trans rfl, (blk_cell BK200.out 0).trans rfl, (blk_cell BK200.out 1).trans rfl⟩ (fun hHeld => ?_)
            clear hK K
            refine norm_ (a' := ?_) ?_ ?_
            rotate_left
            · show Act.put _ (some 44) _ = _
              simp only [Act.put, List.setIfInBounds_toArray, List.set_cons_zero, List.set_cons_succ, i64_w, i32_w]
              rfl
            refine pure_ (i := 4) (N := some 45) (v := ?_) (a' := ?_) #[true, true, true, true, true] rfl rfl (by kernel_rfl) (fun _ _ _ h => h) (Or.inl ⟨by rfl, ?_⟩) ?_ ?_
            rotate_left
            · intro w'
              go_simp
              with_reducible rfl
            rotate_left
            · simp only [Act.put, List.setIfInBounds_toArray, List.set_cons_zero, List.set_cons_succ, i64_w, i32_w]
              rfl
            refine done_ (by kernel_rfl) ?_
            try go_wp2
            go_ret
            exact ⟨by first | rfl | (simp [errW_none, errW_some] <;> rfl) | (simp [*, errW_none, errW_some] <;> rfl), by repeat (first | (with_reducible first | exact HB.out | apply below_alloc | refine below_set ?_ GE200.out | refine below_set ?_ GE215.out | refine below_set ?_ GE222.out | refine below_set ?_ GE230.out) | exact HB.out)⟩

/-- THE ONE PURE STATEMENT of laws_FnExactSyncDisk: yours. -/
def laws_FnExactSyncDisk.Pure : Prop := ∀ (l0_0 : List ByteArray) (l0_1 : List ByteArray), (l0_0.length ≤ maxLen ∧ ∀ a ∈ l0_0, a.size ≤ maxLen) → (l0_1.length ≤ maxLen ∧ ∀ a ∈ l0_1, a.size ≤ maxLen) → ∃ k, laws_FnExactSyncDisk.f k l0_0 l0_1 = some true

end Go.Proofs.Ytgbjmojghcbneab.QFnExactSyncDisk
