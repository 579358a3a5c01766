-- Written by this session's own program (wip/x/xprint.py, over the kit's printer); Lean checks it.
import Derived.Test.YtamiedpgahpihaaQFnExactMendDiskx0
import Derived.Test.YtamiedpgahpihaaQFnExactMendDiskx1
import Derived.Test.YtamiedpgahpihaaQFnExactMendDiskx4
import Derived.Test.YtamiedpgahpihaaQFnExactMendDiskx6
namespace Go.Proofs.Ytamiedpgahpihaa.QFnExactMendDisk
open Go.RowKit Go.Proofs.YtamiedpgahpihaaW.PrintWords Go.Proofs.YtamiedpgahpihaaW.PrintLast Go.Proofs.YtamiedpgahpihaaW.PrintMore
attribute [local go_sem] max2_int min2_int max_two min_two max_three min_three max_four min_four   -- for this text's walks alone
set_option linter.unusedVariables false
set_option linter.unusedSimpArgs false

/-! ### laws_FnExactMendDisk: function 6 -/
mutual
def laws_FnExactMendDisk.j0 : Nat → Bool → Bool → Bool → List ByteArray → List ByteArray → List ByteArray → List ByteArray → List ByteArray → List ByteArray → List ByteArray → List ByteArray → Option (Bool)
  | 0, _, _, _, _, _, _, _, _, _, _, _ => none
  | k + 1, x5, x8, x40, x263000, x263001, x278000, x278001, x285000, x285001, x293000, x293001 => if x40 = true then (some false) else ((laws_toDisk.f k x263000 x263001).bind fun bt294 => ((laws_eqDisk.f k x285000 x285001 bt294.1 bt294.2).bind fun t300 => (if t300 = true then ((laws_markDisk.f k x285000 x285001 1).bind fun bt301 => (if bt301.1 < 0 then (laws_FnExactMendDisk.j1 k x5 true x263000 x263001 x278000 x278001 x293000 x293001) else ((laws_eqDisk.f k x293000 x293001 x278000 x278001).bind fun t304 => (if t304 = true then (laws_FnExactMendDisk.j1 k x5 (x8 != x5) x263000 x263001 x278000 x278001 x293000 x293001) else (laws_FnExactMendDisk.j1 k x5 true x263000 x263001 x278000 x278001 x293000 x293001))))) else (some false))))
def laws_FnExactMendDisk.j1 : Nat → Bool → Bool → List ByteArray → List ByteArray → List ByteArray → List ByteArray → List ByteArray → List ByteArray → Option (Bool)
  | 0, _, _, _, _, _, _, _, _ => none
  | k + 1, x5, x61, x263000, x263001, x278000, x278001, x293000, x293001 => if x61 = true then (some false) else ((laws_markDisk.f k x293000 x293001 1).bind fun bt305 => ((laws_heldDisk.f k bt305.2.1 bt305.2.2 1).bind fun t308 => (if t308 < 0 then (some false) else (if t308 = bt305.1 then ((laws_toDisk.f k x263000 x263001).bind fun bt309 => ((impl_MendDisk.f k bt309.1 bt309.2).bind fun bt315 => ((laws_eqDisk.f k bt315.1 bt315.2.1 x278000 x278001).bind fun t323 => (if t323 = true then (laws_FnExactMendDisk.j2 k bt305.1 (bt315.2.2 != x5) bt305.2.1 bt305.2.2) else (laws_FnExactMendDisk.j2 k bt305.1 true bt305.2.1 bt305.2.2))))) else (some false)))))
def laws_FnExactMendDisk.j2 : Nat → Int → Bool → List ByteArray → List ByteArray → Option (Bool)
  | 0, _, _, _, _ => none
  | k + 1, x10, x87, x293000, x293001 => if x87 = true then (some false) else ((laws_heldDisk.f k x293000 x293001 1).bind fun t324 => (if t324 < 0 then (some false) else (if t324 = x10 then (some true) else (some false))))
end
def laws_FnExactMendDisk.f (k : Nat) (l0_0 : List ByteArray) (l0_1 : List ByteArray) : Option (Bool) := (laws_szDisk.f k l0_0 l0_1 1048576).bind fun t263 => (if t263 < 0 then (some true) else ((laws_toDisk.f k l0_0 l0_1).bind fun bt264 => ((spec_MendDisk.f k bt264.1 bt264.2).bind fun bt270 => ((laws_toDisk.f k l0_0 l0_1).bind fun bt278 => ((impl_MendDisk.f k bt278.1 bt278.2).bind fun bt285 => ((laws_eqDisk.f k bt285.1 bt285.2.1 bt270.1 bt270.2.1).bind fun t293 => (if t293 = true then (laws_FnExactMendDisk.j0 k bt270.2.2 bt285.2.2 (bt285.2.2 != bt270.2.2) l0_0 l0_1 bt270.1 bt270.2.1 bt278.1 bt278.2 bt285.1 bt285.2.1) else (laws_FnExactMendDisk.j0 k bt270.2.2 bt285.2.2 true l0_0 l0_1 bt270.1 bt270.2.1 bt278.1 bt278.2 bt285.1 bt285.2.1))))))))
theorem laws_FnExactMendDisk.mono_l : ∀ k, (∀ y0 y1 y2 y3 y4 y5 y6 y7 y8 y9 y10, LeO (laws_FnExactMendDisk.j0 k y0 y1 y2 y3 y4 y5 y6 y7 y8 y9 y10) (laws_FnExactMendDisk.j0 (k + 1) y0 y1 y2 y3 y4 y5 y6 y7 y8 y9 y10)) ∧ (∀ y0 y1 y2 y3 y4 y5 y6 y7, LeO (laws_FnExactMendDisk.j1 k y0 y1 y2 y3 y4 y5 y6 y7) (laws_FnExactMendDisk.j1 (k + 1) y0 y1 y2 y3 y4 y5 y6 y7)) ∧ (∀ y0 y1 y2 y3, LeO (laws_FnExactMendDisk.j2 k y0 y1 y2 y3) (laws_FnExactMendDisk.j2 (k + 1) y0 y1 y2 y3))
  | 0 => ⟨fun _ _ _ _ _ _ _ _ _ _ _ r h => by simp [laws_FnExactMendDisk.j0] at h, fun _ _ _ _ _ _ _ _ r h => by simp [laws_FnExactMendDisk.j1] at h, fun _ _ _ _ r h => by simp [laws_FnExactMendDisk.j2] at h⟩
  | k + 1 => by
    obtain ⟨ih0, ih1, ih2⟩ := laws_FnExactMendDisk.mono_l k
    refine ⟨?_, ?_, ?_⟩
    · intro y0 y1 y2 y3 y4 y5 y6 y7 y8 y9 y10
      unfold laws_FnExactMendDisk.j0
      repeat' first
      | (with_reducible exact ih0 _ _ _ _ _ _ _ _ _ _ _)
      | (with_reducible exact ih1 _ _ _ _ _ _ _ _)
      | (with_reducible exact ih2 _ _ _ _)
      | (with_reducible exact impl_MendDisk.mono _ _ _)
      | (with_reducible exact laws_eqDisk.mono _ _ _ _ _)
      | (with_reducible exact laws_heldDisk.mono _ _ _ _)
      | (with_reducible exact laws_markDisk.mono _ _ _ _)
      | (with_reducible exact laws_szDisk.mono _ _ _ _)
      | (with_reducible exact laws_toDisk.mono _ _ _)
      | (with_reducible exact spec_MendDisk.mono _ _ _)
      | (with_reducible exact LeO.refl _)
      | (with_reducible exact LeO.none _)
      | (with_reducible refine LeO.ite ?_ ?_)
      | (with_reducible refine LeO.bind ?_ (fun _ => ?_))
      | exact ih0 _ _ _ _ _ _ _ _ _ _ _
      | exact ih1 _ _ _ _ _ _ _ _
      | exact ih2 _ _ _ _
      | exact impl_MendDisk.mono _ _ _
      | exact laws_eqDisk.mono _ _ _ _ _
      | exact laws_heldDisk.mono _ _ _ _
      | exact laws_markDisk.mono _ _ _ _
      | exact laws_szDisk.mono _ _ _ _
      | exact laws_toDisk.mono _ _ _
      | exact spec_MendDisk.mono _ _ _
      | exact LeO.none _
      | refine LeO.ite ?_ ?_
      | refine LeO.bind ?_ (fun _ => ?_)
    · intro y0 y1 y2 y3 y4 y5 y6 y7
      unfold laws_FnExactMendDisk.j1
      repeat' first
      | (with_reducible exact ih0 _ _ _ _ _ _ _ _ _ _ _)
      | (with_reducible exact ih1 _ _ _ _ _ _ _ _)
      | (with_reducible exact ih2 _ _ _ _)
      | (with_reducible exact impl_MendDisk.mono _ _ _)
      | (with_reducible exact laws_eqDisk.mono _ _ _ _ _)
      | (with_reducible exact laws_heldDisk.mono _ _ _ _)
      | (with_reducible exact laws_markDisk.mono _ _ _ _)
      | (with_reducible exact laws_szDisk.mono _ _ _ _)
      | (with_reducible exact laws_toDisk.mono _ _ _)
      | (with_reducible exact spec_MendDisk.mono _ _ _)
      | (with_reducible exact LeO.refl _)
      | (with_reducible exact LeO.none _)
      | (with_reducible refine LeO.ite ?_ ?_)
      | (with_reducible refine LeO.bind ?_ (fun _ => ?_))
      | exact ih0 _ _ _ _ _ _ _ _ _ _ _
      | exact ih1 _ _ _ _ _ _ _ _
      | exact ih2 _ _ _ _
      | exact impl_MendDisk.mono _ _ _
      | exact laws_eqDisk.mono _ _ _ _ _
      | exact laws_heldDisk.mono _ _ _ _
      | exact laws_markDisk.mono _ _ _ _
      | exact laws_szDisk.mono _ _ _ _
      | exact laws_toDisk.mono _ _ _
      | exact spec_MendDisk.mono _ _ _
      | exact LeO.none _
      | refine LeO.ite ?_ ?_
      | refine LeO.bind ?_ (fun _ => ?_)
    · intro y0 y1 y2 y3
      unfold laws_FnExactMendDisk.j2
      repeat' first
      | (with_reducible exact ih0 _ _ _ _ _ _ _ _ _ _ _)
      | (with_reducible exact ih1 _ _ _ _ _ _ _ _)
      | (with_reducible exact ih2 _ _ _ _)
      | (with_reducible exact impl_MendDisk.mono _ _ _)
      | (with_reducible exact laws_eqDisk.mono _ _ _ _ _)
      | (with_reducible exact laws_heldDisk.mono _ _ _ _)
      | (with_reducible exact laws_markDisk.mono _ _ _ _)
      | (with_reducible exact laws_szDisk.mono _ _ _ _)
      | (with_reducible exact laws_toDisk.mono _ _ _)
      | (with_reducible exact spec_MendDisk.mono _ _ _)
      | (with_reducible exact LeO.refl _)
      | (with_reducible exact LeO.none _)
      | (with_reducible refine LeO.ite ?_ ?_)
      | (with_reducible refine LeO.bind ?_ (fun _ => ?_))
      | exact ih0 _ _ _ _ _ _ _ _ _ _ _
      | exact ih1 _ _ _ _ _ _ _ _
      | exact ih2 _ _ _ _
      | exact impl_MendDisk.mono _ _ _
      | exact laws_eqDisk.mono _ _ _ _ _
      | exact laws_heldDisk.mono _ _ _ _
      | exact laws_markDisk.mono _ _ _ _
      | exact laws_szDisk.mono _ _ _ _
      | exact laws_toDisk.mono _ _ _
      | exact spec_MendDisk.mono _ _ _
      | exact LeO.none _
      | refine LeO.ite ?_ ?_
      | refine LeO.bind ?_ (fun _ => ?_)
theorem laws_FnExactMendDisk.mono : ∀ a0 a1 k, LeO (laws_FnExactMendDisk.f k a0 a1) (laws_FnExactMendDisk.f (k + 1) a0 a1) := by
  intro a0 a1 k
  obtain ⟨ih0, ih1, ih2⟩ := laws_FnExactMendDisk.mono_l k
  unfold laws_FnExactMendDisk.f
  repeat' first
      | (with_reducible exact ih0 _ _ _ _ _ _ _ _ _ _ _)
      | (with_reducible exact ih1 _ _ _ _ _ _ _ _)
      | (with_reducible exact ih2 _ _ _ _)
      | (with_reducible exact impl_MendDisk.mono _ _ _)
      | (with_reducible exact laws_eqDisk.mono _ _ _ _ _)
      | (with_reducible exact laws_heldDisk.mono _ _ _ _)
      | (with_reducible exact laws_markDisk.mono _ _ _ _)
      | (with_reducible exact laws_szDisk.mono _ _ _ _)
      | (with_reducible exact laws_toDisk.mono _ _ _)
      | (with_reducible exact spec_MendDisk.mono _ _ _)
      | (with_reducible exact LeO.refl _)
      | (with_reducible exact LeO.none _)
      | (with_reducible refine LeO.ite ?_ ?_)
      | (with_reducible refine LeO.bind ?_ (fun _ => ?_))
      | exact ih0 _ _ _ _ _ _ _ _ _ _ _
      | exact ih1 _ _ _ _ _ _ _ _
      | exact ih2 _ _ _ _
      | exact impl_MendDisk.mono _ _ _
      | exact laws_eqDisk.mono _ _ _ _ _
      | exact laws_heldDisk.mono _ _ _ _
      | exact laws_markDisk.mono _ _ _ _
      | exact laws_szDisk.mono _ _ _ _
      | exact laws_toDisk.mono _ _ _
      | exact spec_MendDisk.mono _ _ _
      | exact LeO.none _
      | refine LeO.ite ?_ ?_
      | refine LeO.bind ?_ (fun _ => ?_)
set_option maxHeartbeats 8000000 in
set_option maxRecDepth 100000 in
theorem laws_FnExactMendDisk.calls (k : Nat) (A0_0 : Option Addr) (c0_0 : Nat) (l0_0 : List ByteArray) (A0_1 : Option Addr) (c0_1 : Nat) (l0_1 : List ByteArray) (r : Bool) (w : World) (hr0_0 : Kd.C Kd.string w A0_0 l0_0.length l0_0) (hc0_0 : l0_0.length ≤ c0_0) (hr0_1 : Kd.C Kd.string w A0_1 l0_1.length l0_1) (hc0_1 : l0_1.length ≤ c0_1) (h : laws_FnExactMendDisk.f k l0_0 l0_1 = some r) :
    Calls Try.prog 6 #[.agg #[.slice A0_0 l0_0.length c0_0, .slice A0_1 l0_1.length c0_1]] w fun e w' => e = .returned (.bool r) ∧ Below w.heap.size w w' := by
  have hu30 := Try.underlying30
  have hu34 := Try.underlying34
  have HR0_0 := Aside0.mk hr0_0
  have HC0_0 := Aside0.mk hc0_0
  clear hr0_0 hc0_0
  have HR0_1 := Aside0.mk hr0_1
  have HC0_1 := Aside0.mk hc0_1
  clear hr0_1 hc0_1
  have HB := Aside0.mk (Below.refl w.heap.size w)
  have H : ((laws_szDisk.f k l0_0 l0_1 1048576).bind fun t263 => (if t263 < 0 then (some true) else ((laws_toDisk.f k l0_0 l0_1).bind fun bt264 => ((spec_MendDisk.f k bt264.1 bt264.2).bind fun bt270 => ((laws_toDisk.f k l0_0 l0_1).bind fun bt278 => ((impl_MendDisk.f k bt278.1 bt278.2).bind fun bt285 => ((laws_eqDisk.f k bt285.1 bt285.2.1 bt270.1 bt270.2.1).bind fun t293 => (if t293 = true then (laws_FnExactMendDisk.j0 k bt270.2.2 bt285.2.2 (bt285.2.2 != bt270.2.2) l0_0 l0_1 bt270.1 bt270.2.1 bt278.1 bt278.2 bt285.1 bt285.2.1) else (laws_FnExactMendDisk.j0 k bt270.2.2 bt285.2.2 true l0_0 l0_1 bt270.1 bt270.2.1 bt278.1 bt278.2 bt285.1 bt285.2.1))))))))) = some r := h
  clear h
  replace H := Option.bind_eq_some_iff.mp H
  obtain ⟨t263, A20, H⟩ := H
  replace H : (if t263 < 0 then (some true) else ((laws_toDisk.f k l0_0 l0_1).bind fun bt264 => ((spec_MendDisk.f k bt264.1 bt264.2).bind fun bt270 => ((laws_toDisk.f k l0_0 l0_1).bind fun bt278 => ((impl_MendDisk.f k bt278.1 bt278.2).bind fun bt285 => ((laws_eqDisk.f k bt285.1 bt285.2.1 bt270.1 bt270.2.1).bind fun t293 => (if t293 = true then (laws_FnExactMendDisk.j0 k bt270.2.2 bt285.2.2 (bt285.2.2 != bt270.2.2) l0_0 l0_1 bt270.1 bt270.2.1 bt278.1 bt278.2 bt285.1 bt285.2.1) else (laws_FnExactMendDisk.j0 k bt270.2.2 bt285.2.2 true l0_0 l0_1 bt270.1 bt270.2.1 bt278.1 bt278.2 bt285.1 bt285.2.1)))))))) = some r := H
  have A2 := Aside0.mk A20
  clear A20
  by_cases c3 : t263 < 0
  · rw [if_pos c3] at H
    have c3b0 : decide (t263 < 0) = true := decide_eq_true c3
    clear c3
    obtain rfl := Option.some.inj H
    go_enter Try.func6, Try.ntmps6
    go_wp2_with (first | ((with_reducible refine gate_dst (N := 1) rfl ?_); refine box_event ?hg (N := 1) ?hd (cs := #[.slice A0_0 l0_0.length c0_0, .slice A0_1 l0_1.length c0_1]) (t := 30) ?hr ?_; (case hd => rfl); (case hg => rfl); (case hr => first | (go_simp; done) | (go_simp; simp only [IntKind.wrap_u8]; done) | (go_simp; rfl)); intro gb262 hg w4 hbox hb; have n0_ := Aside0.mk (below_step (by repeat (first | (with_reducible first | exact HB.out | apply below_alloc) | exact HB.out)) hb); have n1_ := Aside0.mk (hbox); have n2_ := Aside0.mk ((by rw [hg]; exact (below_size (by repeat (first | (with_reducible first | exact HB.out | apply below_alloc) | exact HB.out))) : w.heap.size ≤ gb262)); have n3_ := Aside0.mk ((by rw [hg]; exact (below_size (by repeat (first | (with_reducible first | exact HB.out | apply below_alloc) | exact HB.out))) : w.heap.size ≤ gb262)); clear HB; have HB := n0_; have BK262 := n1_; have GW262 := n2_; have GE262 := n3_; clear n0_ n1_ n2_ n3_; clear hb hbox hg; have hcz5_0 : w4.cell? ⟨gb262, 0, none⟩ = some (.slice A0_0 l0_0.length c0_0) := (blk_cell BK262.out 0).trans rfl; have hcz5_1 : w4.cell? ⟨gb262, 1, none⟩ = some (.slice A0_1 l0_1.length c0_1) := (blk_cell BK262.out 1).trans rfl; have hfz5_0 := blk_frozen BK262.out 0; have hfz5_1 := blk_frozen BK262.out 1) | ((with_reducible refine gate_callee (f := 13) rfl ?_); refine goesL_ (some 16) rfl rfl Try.func13 (by kernel_rfl) rfl #[.agg #[.slice A0_0 l0_0.length c0_0, .slice A0_1 l0_1.length c0_1], .int .i64 1048576] rfl (by (try simp only [List.map_toArray, List.map_cons, List.map_nil]); first | done | rfl | (simp only [List.length_drop, List.length_take]; rfl)) ?_; (with_reducible refine (laws_szDisk.calls k _ _ l0_0 _ _ l0_1 1048576 t263 _ ?side1 ?side2 ?side3 ?side4 A2.out).mono ?_); (case side1 => repeat (first | exact (Kd.C_below HR0_0.out HB.out) | (with_reducible refine Kd.C_alloc ?_ _))); (case side2 => exact HC0_0.out); (case side3 => repeat (first | exact (Kd.C_below HR0_1.out HB.out) | (with_reducible refine Kd.C_alloc ?_ _))); (case side4 => exact HC0_1.out); rintro e w6 ⟨rfl, hb⟩; refine ⟨_, rfl, ?_⟩; have n0_ := Aside0.mk (blk_below (g := gb262) (o := .cells #[.slice A0_0 l0_0.length c0_0, .slice A0_1 l0_1.length c0_1] 30 (0, 0)) (by (with_reducible repeat (refine blk_alloc ?_ _)); exact BK262.out) hb); have n1_ := Aside0.mk (below_step (by repeat (first | (with_reducible first | exact HB.out | apply below_alloc | refine below_set ?_ GE262.out) | exact HB.out)) hb); clear BK262; clear HB; have BK262 := n0_; have HB := n1_; clear n0_ n1_; (try clear hb); (try clear hb2); (try clear hk); (try clear hi)))
    go_ret
    exact ⟨by first | rfl | (simp [errW_none, errW_some] <;> rfl) | (simp [*, errW_none, errW_some] <;> rfl), by repeat (first | (with_reducible first | exact HB.out | apply below_alloc | refine below_set ?_ GE262.out) | exact HB.out)⟩
  · rw [if_neg c3] at H
    have c3b0 : decide (t263 < 0) = false := decide_eq_false c3
    clear c3
    replace H := Option.bind_eq_some_iff.mp H
    obtain ⟨⟨t264, t267⟩, A70, H⟩ := H
    replace H : ((spec_MendDisk.f k t264 t267).bind fun bt270 => ((laws_toDisk.f k l0_0 l0_1).bind fun bt278 => ((impl_MendDisk.f k bt278.1 bt278.2).bind fun bt285 => ((laws_eqDisk.f k bt285.1 bt285.2.1 bt270.1 bt270.2.1).bind fun t293 => (if t293 = true then (laws_FnExactMendDisk.j0 k bt270.2.2 bt285.2.2 (bt285.2.2 != bt270.2.2) l0_0 l0_1 bt270.1 bt270.2.1 bt278.1 bt278.2 bt285.1 bt285.2.1) else (laws_FnExactMendDisk.j0 k bt270.2.2 bt285.2.2 true l0_0 l0_1 bt270.1 bt270.2.1 bt278.1 bt278.2 bt285.1 bt285.2.1)))))) = some r := H
    have A7 := Aside0.mk A70
    clear A70
    replace H := Option.bind_eq_some_iff.mp H
    obtain ⟨⟨t270, t273, t276⟩, A80, H⟩ := H
    replace H : ((laws_toDisk.f k l0_0 l0_1).bind fun bt278 => ((impl_MendDisk.f k bt278.1 bt278.2).bind fun bt285 => ((laws_eqDisk.f k bt285.1 bt285.2.1 t270 t273).bind fun t293 => (if t293 = true then (laws_FnExactMendDisk.j0 k t276 bt285.2.2 (bt285.2.2 != t276) l0_0 l0_1 t270 t273 bt278.1 bt278.2 bt285.1 bt285.2.1) else (laws_FnExactMendDisk.j0 k t276 bt285.2.2 true l0_0 l0_1 t270 t273 bt278.1 bt278.2 bt285.1 bt285.2.1))))) = some r := H
    have A8 := Aside0.mk A80
    clear A80
    replace H := Option.bind_eq_some_iff.mp H
    obtain ⟨⟨t278, t281⟩, A90, H⟩ := H
    replace H : ((impl_MendDisk.f k t278 t281).bind fun bt285 => ((laws_eqDisk.f k bt285.1 bt285.2.1 t270 t273).bind fun t293 => (if t293 = true then (laws_FnExactMendDisk.j0 k t276 bt285.2.2 (bt285.2.2 != t276) l0_0 l0_1 t270 t273 t278 t281 bt285.1 bt285.2.1) else (laws_FnExactMendDisk.j0 k t276 bt285.2.2 true l0_0 l0_1 t270 t273 t278 t281 bt285.1 bt285.2.1)))) = some r := H
    have A9 := Aside0.mk A90
    clear A90
    replace H := Option.bind_eq_some_iff.mp H
    obtain ⟨⟨t285, t288, t291⟩, A100, H⟩ := H
    replace H : ((laws_eqDisk.f k t285 t288 t270 t273).bind fun t293 => (if t293 = true then (laws_FnExactMendDisk.j0 k t276 t291 (t291 != t276) l0_0 l0_1 t270 t273 t278 t281 t285 t288) else (laws_FnExactMendDisk.j0 k t276 t291 true l0_0 l0_1 t270 t273 t278 t281 t285 t288))) = some r := H
    have A10 := Aside0.mk A100
    clear A100
    have HC11 := Aside0.mk H
    clear H
    go_enter Try.func6, Try.ntmps6
    go_upto_region 8 with (first | ((with_reducible refine gate_dst (N := 1) rfl ?_); refine box_event ?hg (N := 1) ?hd (cs := #[.slice A0_0 l0_0.length c0_0, .slice A0_1 l0_1.length c0_1]) (t := 30) ?hr ?_; (case hd => rfl); (case hg => rfl); (case hr => first | (go_simp; done) | (go_simp; simp only [IntKind.wrap_u8]; done) | (go_simp; rfl)); intro gb262 hg w12 hbox hb; have n0_ := Aside0.mk (below_step (by repeat (first | (with_reducible first | exact HB.out | apply below_alloc) | exact HB.out)) hb); have n1_ := Aside0.mk (hbox); have n2_ := Aside0.mk ((by rw [hg]; exact (below_size (by repeat (first | (with_reducible first | exact HB.out | apply below_alloc) | exact HB.out))) : w.heap.size ≤ gb262)); have n3_ := Aside0.mk ((by rw [hg]; exact (below_size (by repeat (first | (with_reducible first | exact HB.out | apply below_alloc) | exact HB.out))) : w.heap.size ≤ gb262)); clear HB; have HB := n0_; have BK262 := n1_; have GW262 := n2_; have GE262 := n3_; clear n0_ n1_ n2_ n3_; clear hb hbox hg; have hcz13_0 : w12.cell? ⟨gb262, 0, none⟩ = some (.slice A0_0 l0_0.length c0_0) := (blk_cell BK262.out 0).trans rfl; have hcz13_1 : w12.cell? ⟨gb262, 1, none⟩ = some (.slice A0_1 l0_1.length c0_1) := (blk_cell BK262.out 1).trans rfl; have hfz13_0 := blk_frozen BK262.out 0; have hfz13_1 := blk_frozen BK262.out 1) | ((with_reducible refine gate_callee (f := 13) rfl ?_); refine goesL_ (some 16) rfl rfl Try.func13 (by kernel_rfl) rfl #[.agg #[.slice A0_0 l0_0.length c0_0, .slice A0_1 l0_1.length c0_1], .int .i64 1048576] rfl (by (try simp only [List.map_toArray, List.map_cons, List.map_nil]); first | done | rfl | (simp only [List.length_drop, List.length_take]; rfl)) ?_; (with_reducible refine (laws_szDisk.calls k _ _ l0_0 _ _ l0_1 1048576 t263 _ ?side1 ?side2 ?side3 ?side4 A2.out).mono ?_); (case side1 => repeat (first | exact (Kd.C_below HR0_0.out HB.out) | (with_reducible refine Kd.C_alloc ?_ _))); (case side2 => exact HC0_0.out); (case side3 => repeat (first | exact (Kd.C_below HR0_1.out HB.out) | (with_reducible refine Kd.C_alloc ?_ _))); (case side4 => exact HC0_1.out); rintro e w14 ⟨rfl, hb⟩; refine ⟨_, rfl, ?_⟩; have n0_ := Aside0.mk (blk_below (g := gb262) (o := .cells #[.slice A0_0 l0_0.length c0_0, .slice A0_1 l0_1.length c0_1] 30 (0, 0)) (by (with_reducible repeat (refine blk_alloc ?_ _)); exact BK262.out) hb); have n1_ := Aside0.mk (below_step (by repeat (first | (with_reducible first | exact HB.out | apply below_alloc | refine below_set ?_ GE262.out) | exact HB.out)) hb); clear BK262; clear HB; have BK262 := n0_; have HB := n1_; clear n0_ n1_; (try clear hb); (try clear hb2); (try clear hk); (try clear hi); have hcz15_0 : w14.cell? ⟨gb262, 0, none⟩ = some (.slice A0_0 l0_0.length c0_0) := (blk_cell BK262.out 0).trans rfl; have hcz15_1 : w14.cell? ⟨gb262, 1, none⟩ = some (.slice A0_1 l0_1.length c0_1) := (blk_cell BK262.out 1).trans rfl; have hfz15_0 := blk_frozen BK262.out 0; have hfz15_1 := blk_frozen BK262.out 1) | ((with_reducible refine gate_callee (f := 15) rfl ?_); refine goesL_ (some 21) rfl rfl Try.func15 (by kernel_rfl) rfl #[.agg #[.slice A0_0 l0_0.length c0_0, .slice A0_1 l0_1.length c0_1]] rfl (by (try simp only [List.map_toArray, List.map_cons, List.map_nil]); first | done | rfl | (simp only [List.length_drop, List.length_take]; rfl)) ?_; (with_reducible refine (laws_toDisk.calls k _ _ l0_0 _ _ l0_1 t264 t267 _ ?side1 ?side2 ?side3 ?side4 A7.out).mono ?_); (case side1 => repeat (first | exact (Kd.C_below HR0_0.out HB.out) | (with_reducible refine Kd.C_alloc ?_ _))); (case side2 => exact HC0_0.out); (case side3 => repeat (first | exact (Kd.C_below HR0_1.out HB.out) | (with_reducible refine Kd.C_alloc ?_ _))); (case side4 => exact HC0_1.out); rintro e w16 ⟨v265, v268, rfl, ho0, ho1, hb⟩; refine ⟨_, rfl, ?_⟩; have n0_ := Aside0.mk (Kd.R_lower ho0 (below_size (by repeat (first | (with_reducible first | exact HB.out | apply below_alloc | refine below_set ?_ GE262.out) | exact HB.out)))); have n1_ := Aside0.mk (Kd.R_lower ho1 (below_size (by repeat (first | (with_reducible first | exact HB.out | apply below_alloc | refine below_set ?_ GE262.out) | exact HB.out)))); have n2_ := Aside0.mk (blk_below (g := gb262) (o := .cells #[.slice A0_0 l0_0.length c0_0, .slice A0_1 l0_1.length c0_1] 30 (0, 0)) (by (with_reducible repeat (refine blk_alloc ?_ _)); exact BK262.out) hb); have n3_ := Aside0.mk (below_step (by repeat (first | (with_reducible first | exact HB.out | apply below_alloc | refine below_set ?_ GE262.out) | exact HB.out)) hb); clear BK262; clear HB; have HO266 := n0_; have HO269 := n1_; have BK262 := n2_; have HB := n3_; clear n0_ n1_ n2_ n3_; (try clear hb); (try clear hb2); (try clear hk); (try clear hi); (try clear ho0); (try clear ho1); obtain ⟨Ao17, co17, eo17⟩ := Kd.R_slice HO266.out; subst eo17; obtain ⟨Ao18, co18, eo18⟩ := Kd.R_slice HO269.out; subst eo18) | ((with_reducible refine gate_callee (f := 22) rfl ?_); refine goesL_ (some 22) rfl rfl Try.func22 (by kernel_rfl) rfl #[.agg #[.slice Ao17 t264.length co17, .slice Ao18 t267.length co18]] rfl (by (try simp only [List.map_toArray, List.map_cons, List.map_nil]); first | done | rfl | (simp only [List.length_drop, List.length_take]; rfl)) ?_; (with_reducible refine (spec_MendDisk.calls k _ _ t264 _ _ t267 t270 t273 t276 _ ?side1 ?side2 ?side3 ?side4 A8.out).mono ?_); (case side1 => repeat (first | exact (Kd.R_reads' HO266.out).2.2 | (with_reducible refine Kd.C_alloc ?_ _))); (case side2 => exact (Kd.R_reads' HO266.out).2.1); (case side3 => repeat (first | exact (Kd.R_reads' HO269.out).2.2 | (with_reducible refine Kd.C_alloc ?_ _))); (case side4 => exact (Kd.R_reads' HO269.out).2.1); rintro e w19 ⟨v271, v274, rfl, ho0, ho1, hb⟩; refine ⟨_, rfl, ?_⟩; have n0_ := Aside0.mk (Kd.R_mono (Kd.R_told (Kd.R_told (Kd.R_old (by (with_reducible repeat (first | apply Kd.R_alloc)); exact HO266.out) hb) (Kd.R_base ho0)) (Kd.R_base ho1)) (fun _ h_ => h_.1)); have n1_ := Aside0.mk (Kd.R_mono (Kd.R_told (Kd.R_told (Kd.R_old (by (with_reducible repeat (first | apply Kd.R_alloc)); exact HO269.out) hb) (Kd.R_base ho0)) (Kd.R_base ho1)) (fun _ h_ => h_.1)); have n2_ := Aside0.mk (Kd.R_lower (Kd.R_new' (Kd.R_new' ho0 (Kd.R_lt (by (with_reducible repeat (first | apply Kd.R_alloc)); exact HO266.out))) (Kd.R_lt (by (with_reducible repeat (first | apply Kd.R_alloc)); exact HO269.out))) (below_size (by repeat (first | (with_reducible first | exact HB.out | apply below_alloc | refine below_set ?_ GE262.out) | exact HB.out)))); have n3_ := Aside0.mk (Kd.R_lower (Kd.R_new' (Kd.R_new' ho1 (Kd.R_lt (by (with_reducible repeat (first | apply Kd.R_alloc)); exact HO266.out))) (Kd.R_lt (by (with_reducible repeat (first | apply Kd.R_alloc)); exact HO269.out))) (below_size (by repeat (first | (with_reducible first | exact HB.out | apply below_alloc | refine below_set ?_ GE262.out) | exact HB.out)))); have n4_ := Aside0.mk (blk_below (g := gb262) (o := .cells #[.slice A0_0 l0_0.length c0_0, .slice A0_1 l0_1.length c0_1] 30 (0, 0)) (by (with_reducible repeat (refine blk_alloc ?_ _)); exact BK262.out) hb); have n5_ := Aside0.mk (below_step (by repeat (first | (with_reducible first | exact HB.out | apply below_alloc | refine below_set ?_ GE262.out) | exact HB.out)) hb); clear HO266; clear HO269; clear BK262; clear HB; have HO266 := n0_; have HO269 := n1_; have HO272 := n2_; have HO275 := n3_; have BK262 := n4_; have HB := n5_; clear n0_ n1_ n2_ n3_ n4_ n5_; (try clear hb); (try clear hb2); (try clear hk); (try clear hi); (try clear ho0); (try clear ho1)) | ((with_reducible refine gate_dst (N := 4) rfl ?_); refine box_event ?hg (N := 4) ?hd (cs := #[.slice none 0 0, .slice none 0 0]) (t := 34) ?hr ?_; (case hd => rfl); (case hg => rfl); (case hr => first | (go_simp; done) | (go_simp; simp only [IntKind.wrap_u8]; done) | (go_simp; rfl)); intro gb277 hg w20 hbox hb; have n0_ := Aside0.mk (Kd.R_below (by (with_reducible repeat (first | apply Kd.R_alloc)); exact HO266.out) hb); have n1_ := Aside0.mk (Kd.R_below (by (with_reducible repeat (first | apply Kd.R_alloc)); exact HO269.out) hb); have n2_ := Aside0.mk (Kd.R_below (by (with_reducible repeat (first | apply Kd.R_alloc)); exact HO272.out) hb); have n3_ := Aside0.mk (Kd.R_below (by (with_reducible repeat (first | apply Kd.R_alloc)); exact HO275.out) hb); have n4_ := Aside0.mk (blk_below (g := gb262) (o := .cells #[.slice A0_0 l0_0.length c0_0, .slice A0_1 l0_1.length c0_1] 30 (0, 0)) (by (with_reducible repeat (refine blk_alloc ?_ _)); exact BK262.out) hb); have n5_ := Aside0.mk (below_step (by repeat (first | (with_reducible first | exact HB.out | apply below_alloc | refine below_set ?_ GE262.out) | exact HB.out)) hb); have n6_ := Aside0.mk (hbox); have n7_ := Aside0.mk ((by rw [hg]; exact (below_size (by repeat (first | (with_reducible first | exact HB.out | apply below_alloc | refine below_set ?_ GE262.out) | exact HB.out))) : w.heap.size ≤ gb277)); have n8_ := Aside0.mk ((by rw [hg]; exact (below_size (by repeat (first | (with_reducible first | exact HB.out | apply below_alloc | refine below_set ?_ GE262.out) | exact HB.out))) : w.heap.size ≤ gb277)); have n9_ := Aside0.mk ((by rw [hg]; exact Nat.ne_of_lt (blk_lt (g := gb262) (o := .cells #[.slice A0_0 l0_0.length c0_0, .slice A0_1 l0_1.length c0_1] 30 (0, 0)) (by (with_reducible repeat (refine blk_alloc ?_ _)); exact BK262.out)) : gb262 ≠ gb277)); have n10_ := Aside0.mk ((by rw [hg]; exact Nat.ne_of_gt (blk_lt (g := gb262) (o := .cells #[.slice A0_0 l0_0.length c0_0, .slice A0_1 l0_1.length c0_1] 30 (0, 0)) (by (with_reducible repeat (refine blk_alloc ?_ _)); exact BK262.out)) : gb277 ≠ gb262)); clear HO266; clear HO269; clear HO272; clear HO275; clear BK262; clear HB; have HO266 := n0_; have HO269 := n1_; have HO272 := n2_; have HO275 := n3_; have BK262 := n4_; have HB := n5_; have BK277 := n6_; have GW277 := n7_; have GE277 := n8_; have NB262_277 := n9_; have NB277_262 := n10_; clear n0_ n1_ n2_ n3_ n4_ n5_ n6_ n7_ n8_ n9_ n10_; clear hb hbox hg; obtain ⟨Ao21, co21, eo21⟩ := Kd.R_slice HO272.out; subst eo21; have hnb22 := NB277_262.out; have hnc22 := NB262_277.out; have hcz23_0 : w20.cell? ⟨gb277, 0, none⟩ = some (.slice none 0 0) := (blk_cell BK277.out 0).trans rfl; have hcz23_1 : w20.cell? ⟨gb277, 1, none⟩ = some (.slice none 0 0) := (blk_cell BK277.out 1).trans rfl; have hfz23_0 := blk_frozen BK277.out 0; have hfz23_1 := blk_frozen BK277.out 1; obtain ⟨Ao24, co24, eo24⟩ := Kd.R_slice HO275.out; subst eo24; have hcz25_0 : w20.cell? ⟨gb262, 0, none⟩ = some (.slice A0_0 l0_0.length c0_0) := (blk_cell BK262.out 0).trans rfl; have hcz25_1 : w20.cell? ⟨gb262, 1, none⟩ = some (.slice A0_1 l0_1.length c0_1) := (blk_cell BK262.out 1).trans rfl; have hfz25_0 := blk_frozen BK262.out 0; have hfz25_1 := blk_frozen BK262.out 1) | ((with_reducible refine gate_callee (f := 15) rfl ?_); refine goesL_ (some 26) rfl rfl Try.func15 (by kernel_rfl) rfl #[.agg #[.slice A0_0 l0_0.length c0_0, .slice A0_1 l0_1.length c0_1]] rfl (by (try simp only [List.map_toArray, List.map_cons, List.map_nil]); first | done | rfl | (simp only [List.length_drop, List.length_take]; rfl)) ?_; (with_reducible refine (laws_toDisk.calls k _ _ l0_0 _ _ l0_1 t278 t281 _ ?side1 ?side2 ?side3 ?side4 A9.out).mono ?_); (case side1 => exact Kd.C_below HR0_0.out (by repeat (first | (with_reducible first | exact HB.out | apply below_alloc | refine below_set ?_ GE262.out | refine below_set ?_ GE277.out) | exact HB.out))); (case side2 => exact HC0_0.out); (case side3 => exact Kd.C_below HR0_1.out (by repeat (first | (with_reducible first | exact HB.out | apply below_alloc | refine below_set ?_ GE262.out | refine below_set ?_ GE277.out) | exact HB.out))); (case side4 => exact HC0_1.out); rintro e w26 ⟨v279, v282, rfl, ho0, ho1, hb⟩; refine ⟨_, rfl, ?_⟩; have n0_ := Aside0.mk (Kd.R_mono (Kd.R_told (Kd.R_told (Kd.R_old (by (with_reducible repeat (first | apply Kd.R_alloc)); exact (Kd.R_mono (Kd.R_far (p := ⟨gb277, 1, none⟩) (Kd.R_far (p := ⟨gb277, 0, none⟩) (Kd.R_types HO266.out BK277.out (by decide)) (fun _ hk => hk.2) (.slice Ao21 t270.length co21)) (fun _ hk => hk.2) (.slice Ao24 t273.length co24)) (fun _ h_ => h_.1))) hb) (Kd.R_base ho0)) (Kd.R_base ho1)) (fun _ h_ => h_.1)); have n1_ := Aside0.mk (Kd.R_mono (Kd.R_told (Kd.R_told (Kd.R_old (by (with_reducible repeat (first | apply Kd.R_alloc)); exact (Kd.R_mono (Kd.R_far (p := ⟨gb277, 1, none⟩) (Kd.R_far (p := ⟨gb277, 0, none⟩) (Kd.R_types HO269.out BK277.out (by decide)) (fun _ hk => hk.2) (.slice Ao21 t270.length co21)) (fun _ hk => hk.2) (.slice Ao24 t273.length co24)) (fun _ h_ => h_.1))) hb) (Kd.R_base ho0)) (Kd.R_base ho1)) (fun _ h_ => h_.1)); have n2_ := Aside0.mk (Kd.R_mono (Kd.R_told (Kd.R_told (Kd.R_old (by (with_reducible repeat (first | apply Kd.R_alloc)); exact (Kd.R_mono (Kd.R_far (p := ⟨gb277, 1, none⟩) (Kd.R_far (p := ⟨gb277, 0, none⟩) (Kd.R_types HO272.out BK277.out (by decide)) (fun _ hk => hk.2) (.slice Ao21 t270.length co21)) (fun _ hk => hk.2) (.slice Ao24 t273.length co24)) (fun _ h_ => h_.1))) hb) (Kd.R_base ho0)) (Kd.R_base ho1)) (fun _ h_ => h_.1)); have n3_ := Aside0.mk (Kd.R_mono (Kd.R_told (Kd.R_told (Kd.R_old (by (with_reducible repeat (first | apply Kd.R_alloc)); exact (Kd.R_mono (Kd.R_far (p := ⟨gb277, 1, none⟩) (Kd.R_far (p := ⟨gb277, 0, none⟩) (Kd.R_types HO275.out BK277.out (by decide)) (fun _ hk => hk.2) (.slice Ao21 t270.length co21)) (fun _ hk => hk.2) (.slice Ao24 t273.length co24)) (fun _ h_ => h_.1))) hb) (Kd.R_base ho0)) (Kd.R_base ho1)) (fun _ h_ => h_.1)); have n4_ := Aside0.mk (Kd.R_lower (Kd.R_new' (Kd.R_new' (Kd.R_new' (Kd.R_new' ho0 (Kd.R_lt (by (with_reducible repeat (first | apply Kd.R_alloc)); exact (Kd.R_mono (Kd.R_far (p := ⟨gb277, 1, none⟩) (Kd.R_far (p := ⟨gb277, 0, none⟩) (Kd.R_types HO266.out BK277.out (by decide)) (fun _ hk => hk.2) (.slice Ao21 t270.length co21)) (fun _ hk => hk.2) (.slice Ao24 t273.length co24)) (fun _ h_ => h_.1))))) (Kd.R_lt (by (with_reducible repeat (first | apply Kd.R_alloc)); exact (Kd.R_mono (Kd.R_far (p := ⟨gb277, 1, none⟩) (Kd.R_far (p := ⟨gb277, 0, none⟩) (Kd.R_types HO269.out BK277.out (by decide)) (fun _ hk => hk.2) (.slice Ao21 t270.length co21)) (fun _ hk => hk.2) (.slice Ao24 t273.length co24)) (fun _ h_ => h_.1))))) (Kd.R_lt (by (with_reducible repeat (first | apply Kd.R_alloc)); exact (Kd.R_mono (Kd.R_far (p := ⟨gb277, 1, none⟩) (Kd.R_far (p := ⟨gb277, 0, none⟩) (Kd.R_types HO272.out BK277.out (by decide)) (fun _ hk => hk.2) (.slice Ao21 t270.length co21)) (fun _ hk => hk.2) (.slice Ao24 t273.length co24)) (fun _ h_ => h_.1))))) (Kd.R_lt (by (with_reducible repeat (first | apply Kd.R_alloc)); exact (Kd.R_mono (Kd.R_far (p := ⟨gb277, 1, none⟩) (Kd.R_far (p := ⟨gb277, 0, none⟩) (Kd.R_types HO275.out BK277.out (by decide)) (fun _ hk => hk.2) (.slice Ao21 t270.length co21)) (fun _ hk => hk.2) (.slice Ao24 t273.length co24)) (fun _ h_ => h_.1))))) (below_size (by repeat (first | (with_reducible first | exact HB.out | apply below_alloc | refine below_set ?_ GE262.out | refine below_set ?_ GE277.out) | exact HB.out)))); have n5_ := Aside0.mk (Kd.R_lower (Kd.R_new' (Kd.R_new' (Kd.R_new' (Kd.R_new' ho1 (Kd.R_lt (by (with_reducible repeat (first | apply Kd.R_alloc)); exact (Kd.R_mono (Kd.R_far (p := ⟨gb277, 1, none⟩) (Kd.R_far (p := ⟨gb277, 0, none⟩) (Kd.R_types HO266.out BK277.out (by decide)) (fun _ hk => hk.2) (.slice Ao21 t270.length co21)) (fun _ hk => hk.2) (.slice Ao24 t273.length co24)) (fun _ h_ => h_.1))))) (Kd.R_lt (by (with_reducible repeat (first | apply Kd.R_alloc)); exact (Kd.R_mono (Kd.R_far (p := ⟨gb277, 1, none⟩) (Kd.R_far (p := ⟨gb277, 0, none⟩) (Kd.R_types HO269.out BK277.out (by decide)) (fun _ hk => hk.2) (.slice Ao21 t270.length co21)) (fun _ hk => hk.2) (.slice Ao24 t273.length co24)) (fun _ h_ => h_.1))))) (Kd.R_lt (by (with_reducible repeat (first | apply Kd.R_alloc)); exact (Kd.R_mono (Kd.R_far (p := ⟨gb277, 1, none⟩) (Kd.R_far (p := ⟨gb277, 0, none⟩) (Kd.R_types HO272.out BK277.out (by decide)) (fun _ hk => hk.2) (.slice Ao21 t270.length co21)) (fun _ hk => hk.2) (.slice Ao24 t273.length co24)) (fun _ h_ => h_.1))))) (Kd.R_lt (by (with_reducible repeat (first | apply Kd.R_alloc)); exact (Kd.R_mono (Kd.R_far (p := ⟨gb277, 1, none⟩) (Kd.R_far (p := ⟨gb277, 0, none⟩) (Kd.R_types HO275.out BK277.out (by decide)) (fun _ hk => hk.2) (.slice Ao21 t270.length co21)) (fun _ hk => hk.2) (.slice Ao24 t273.length co24)) (fun _ h_ => h_.1))))) (below_size (by repeat (first | (with_reducible first | exact HB.out | apply below_alloc | refine below_set ?_ GE262.out | refine below_set ?_ GE277.out) | exact HB.out)))); have n6_ := Aside0.mk (blk_below (g := gb262) (o := .cells #[.slice A0_0 l0_0.length c0_0, .slice A0_1 l0_1.length c0_1] 30 (0, 0)) (by (with_reducible repeat (refine blk_alloc ?_ _)); refine blk_far ?_ NB262_277.out _; (with_reducible repeat (refine blk_alloc ?_ _)); refine blk_far ?_ NB262_277.out _; (with_reducible repeat (refine blk_alloc ?_ _)); exact BK262.out) hb); have n7_ := Aside0.mk (blk_below (g := gb277) (o := .cells #[.slice Ao21 t270.length co21, .slice Ao24 t273.length co24] 34 (0, 0)) (by (with_reducible repeat (refine blk_alloc ?_ _)); refine blk_put (cs := #[.slice Ao21 t270.length co21, .slice none 0 0]) ?_ 1 _ rfl; (with_reducible repeat (refine blk_alloc ?_ _)); refine blk_put (cs := #[.slice none 0 0, .slice none 0 0]) ?_ 0 _ rfl; (with_reducible repeat (refine blk_alloc ?_ _)); exact BK277.out) hb); have n8_ := Aside0.mk (below_step (by repeat (first | (with_reducible first | exact HB.out | apply below_alloc | refine below_set ?_ GE262.out | refine below_set ?_ GE277.out) | exact HB.out)) hb); clear HO266; clear HO269; clear HO272; clear HO275; clear BK262; clear BK277; clear HB; have HO266 := n0_; have HO269 := n1_; have HO272 := n2_; have HO275 := n3_; have HO280 := n4_; have HO283 := n5_; have BK262 := n6_; have BK277 := n7_; have HB := n8_; clear n0_ n1_ n2_ n3_ n4_ n5_ n6_ n7_ n8_; (try clear hb); (try clear hb2); (try clear hk); (try clear hi); (try clear ho0); (try clear ho1)) | ((with_reducible refine gate_dst (N := 6) rfl ?_); refine box_event ?hg (N := 6) ?hd (cs := #[.slice none 0 0, .slice none 0 0]) (t := 34) ?hr ?_; (case hd => rfl); (case hg => rfl); (case hr => first | (go_simp; done) | (go_simp; simp only [IntKind.wrap_u8]; done) | (go_simp; rfl)); intro gb284 hg w27 hbox hb; have n0_ := Aside0.mk (Kd.R_below (by (with_reducible repeat (first | apply Kd.R_alloc)); exact HO266.out) hb); have n1_ := Aside0.mk (Kd.R_below (by (with_reducible repeat (first | apply Kd.R_alloc)); exact HO269.out) hb); have n2_ := Aside0.mk (Kd.R_below (by (with_reducible repeat (first | apply Kd.R_alloc)); exact HO272.out) hb); have n3_ := Aside0.mk (Kd.R_below (by (with_reducible repeat (first | apply Kd.R_alloc)); exact HO275.out) hb); have n4_ := Aside0.mk (Kd.R_below (by (with_reducible repeat (first | apply Kd.R_alloc)); exact HO280.out) hb); have n5_ := Aside0.mk (Kd.R_below (by (with_reducible repeat (first | apply Kd.R_alloc)); exact HO283.out) hb); have n6_ := Aside0.mk (blk_below (g := gb262) (o := .cells #[.slice A0_0 l0_0.length c0_0, .slice A0_1 l0_1.length c0_1] 30 (0, 0)) (by (with_reducible repeat (refine blk_alloc ?_ _)); exact BK262.out) hb); have n7_ := Aside0.mk (blk_below (g := gb277) (o := .cells #[.slice Ao21 t270.length co21, .slice Ao24 t273.length co24] 34 (0, 0)) (by (with_reducible repeat (refine blk_alloc ?_ _)); exact BK277.out) hb); have n8_ := Aside0.mk (below_step (by repeat (first | (with_reducible first | exact HB.out | apply below_alloc | refine below_set ?_ GE262.out | refine below_set ?_ GE277.out) | exact HB.out)) hb); have n9_ := Aside0.mk (hbox); have n10_ := Aside0.mk ((by rw [hg]; exact (below_size (by repeat (first | (with_reducible first | exact HB.out | apply below_alloc | refine below_set ?_ GE262.out | refine below_set ?_ GE277.out) | exact HB.out))) : w.heap.size ≤ gb284)); have n11_ := Aside0.mk ((by rw [hg]; exact (below_size (by repeat (first | (with_reducible first | exact HB.out | apply below_alloc | refine below_set ?_ GE262.out | refine below_set ?_ GE277.out) | exact HB.out))) : w.heap.size ≤ gb284)); have n12_ := Aside0.mk ((by rw [hg]; exact Nat.ne_of_lt (blk_lt (g := gb262) (o := .cells #[.slice A0_0 l0_0.length c0_0, .slice A0_1 l0_1.length c0_1] 30 (0, 0)) (by (with_reducible repeat (refine blk_alloc ?_ _)); exact BK262.out)) : gb262 ≠ gb284)); have n13_ := Aside0.mk ((by rw [hg]; exact Nat.ne_of_gt (blk_lt (g := gb262) (o := .cells #[.slice A0_0 l0_0.length c0_0, .slice A0_1 l0_1.length c0_1] 30 (0, 0)) (by (with_reducible repeat (refine blk_alloc ?_ _)); exact BK262.out)) : gb284 ≠ gb262)); have n14_ := Aside0.mk ((by rw [hg]; exact Nat.ne_of_lt (blk_lt (g := gb277) (o := .cells #[.slice Ao21 t270.length co21, .slice Ao24 t273.length co24] 34 (0, 0)) (by (with_reducible repeat (refine blk_alloc ?_ _)); exact BK277.out)) : gb277 ≠ gb284)); have n15_ := Aside0.mk ((by rw [hg]; exact Nat.ne_of_gt (blk_lt (g := gb277) (o := .cells #[.slice Ao21 t270.length co21, .slice Ao24 t273.length co24] 34 (0, 0)) (by (with_reducible repeat (refine blk_alloc ?_ _)); exact BK277.out)) : gb284 ≠ gb277)); clear HO266; clear HO269; clear HO272; clear HO275; clear HO280; clear HO283; clear BK262; clear BK277; clear HB; have HO266 := n0_; have HO269 := n1_; have HO272 := n2_; have HO275 := n3_; have HO280 := n4_; have HO283 := n5_; have BK262 := n6_; have BK277 := n7_; have HB := n8_; have BK284 := n9_; have GW284 := n10_; have GE284 := n11_; have NB262_284 := n12_; have NB284_262 := n13_; have NB277_284 := n14_; have NB284_277 := n15_; clear n0_ n1_ n2_ n3_ n4_ n5_ n6_ n7_ n8_ n9_ n10_ n11_ n12_ n13_ n14_ n15_; clear hb hbox hg; obtain ⟨Ao28, co28, eo28⟩ := Kd.R_slice HO280.out; subst eo28; have hnb29 := NB284_262.out; have hnc29 := NB262_284.out; have hnb30 := NB284_277.out; have hnc30 := NB277_284.out; have hcz31_0 : w27.cell? ⟨gb284, 0, none⟩ = some (.slice none 0 0) := (blk_cell BK284.out 0).trans rfl; have hcz31_1 : w27.cell? ⟨gb284, 1, none⟩ = some (.slice none 0 0) := (blk_cell BK284.out 1).trans rfl; have hfz31_0 := blk_frozen BK284.out 0; have hfz31_1 := blk_frozen BK284.out 1; obtain ⟨Ao32, co32, eo32⟩ := Kd.R_slice HO283.out; subst eo32) | ((with_reducible refine gate_callee (f := 23) rfl ?_); refine goesL_ (some 29) rfl rfl Try.func23 (by kernel_rfl) rfl #[.agg #[.slice Ao28 t278.length co28, .slice Ao32 t281.length co32]] rfl (by (try simp only [List.map_toArray, List.map_cons, List.map_nil]); first | done | rfl | (simp only [List.length_drop, List.length_take]; rfl)) ?_; (with_reducible refine (impl_MendDisk.calls k _ _ t278 _ _ t281 t285 t288 t291 _ ?side1 ?side2 ?side3 ?side4 A10.out).mono ?_); (case side1 => refine (Kd.R_reads' (e := 9) (base := w.heap.size) (ok := fun k_ => ((((some k_ ≠ (.slice Ao32 t281.length co32 : Value).ownBlock ∧ some k_ ≠ (.slice Ao17 t264.length co17 : Value).ownBlock) ∧ some k_ ≠ (.slice Ao18 t267.length co18 : Value).ownBlock) ∧ some k_ ≠ (.slice Ao21 t270.length co21 : Value).ownBlock) ∧ some k_ ≠ (.slice Ao24 t273.length co24 : Value).ownBlock)) (n := t278.length) (c := co28) ?_).2.2; exact (by (with_reducible repeat (first | apply Kd.R_alloc)); exact (Kd.R_mono (Kd.R_far (p := ⟨gb284, 1, none⟩) (Kd.R_far (p := ⟨gb284, 0, none⟩) (Kd.R_types HO280.out BK284.out (by decide)) (fun _ hk => hk.2) (.slice Ao28 t278.length co28)) (fun _ hk => hk.2) (.slice Ao32 t281.length co32)) (fun _ h_ => h_.1)))); (case side2 => exact (Kd.R_reads' HO280.out).2.1); (case side3 => refine (Kd.R_reads' (e := 9) (base := w.heap.size) (ok := fun k_ => ((((some k_ ≠ (.slice Ao28 t278.length co28 : Value).ownBlock ∧ some k_ ≠ (.slice Ao17 t264.length co17 : Value).ownBlock) ∧ some k_ ≠ (.slice Ao18 t267.length co18 : Value).ownBlock) ∧ some k_ ≠ (.slice Ao21 t270.length co21 : Value).ownBlock) ∧ some k_ ≠ (.slice Ao24 t273.length co24 : Value).ownBlock)) (n := t281.length) (c := co32) ?_).2.2; exact (by (with_reducible repeat (first | apply Kd.R_alloc)); exact (Kd.R_mono (Kd.R_far (p := ⟨gb284, 1, none⟩) (Kd.R_far (p := ⟨gb284, 0, none⟩) (Kd.R_types HO283.out BK284.out (by decide)) (fun _ hk => hk.2) (.slice Ao28 t278.length co28)) (fun _ hk => hk.2) (.slice Ao32 t281.length co32)) (fun _ h_ => h_.1)))); (case side4 => exact (Kd.R_reads' HO283.out).2.1); rintro e w33 ⟨v286, v289, rfl, ho0, ho1, hb⟩; refine ⟨_, rfl, ?_⟩; have n0_ := Aside0.mk (Kd.R_mono (Kd.R_told (Kd.R_told (Kd.R_old (by (with_reducible repeat (first | apply Kd.R_alloc)); exact (Kd.R_mono (Kd.R_far (p := ⟨gb284, 1, none⟩) (Kd.R_far (p := ⟨gb284, 0, none⟩) (Kd.R_types HO266.out BK284.out (by decide)) (fun _ hk => hk.2) (.slice Ao28 t278.length co28)) (fun _ hk => hk.2) (.slice Ao32 t281.length co32)) (fun _ h_ => h_.1))) hb) (Kd.R_base ho0)) (Kd.R_base ho1)) (fun _ h_ => h_.1)); have n1_ := Aside0.mk (Kd.R_mono (Kd.R_told (Kd.R_told (Kd.R_old (by (with_reducible repeat (first | apply Kd.R_alloc)); exact (Kd.R_mono (Kd.R_far (p := ⟨gb284, 1, none⟩) (Kd.R_far (p := ⟨gb284, 0, none⟩) (Kd.R_types HO269.out BK284.out (by decide)) (fun _ hk => hk.2) (.slice Ao28 t278.length co28)) (fun _ hk => hk.2) (.slice Ao32 t281.length co32)) (fun _ h_ => h_.1))) hb) (Kd.R_base ho0)) (Kd.R_base ho1)) (fun _ h_ => h_.1)); have n2_ := Aside0.mk (Kd.R_mono (Kd.R_told (Kd.R_told (Kd.R_old (by (with_reducible repeat (first | apply Kd.R_alloc)); exact (Kd.R_mono (Kd.R_far (p := ⟨gb284, 1, none⟩) (Kd.R_far (p := ⟨gb284, 0, none⟩) (Kd.R_types HO272.out BK284.out (by decide)) (fun _ hk => hk.2) (.slice Ao28 t278.length co28)) (fun _ hk => hk.2) (.slice Ao32 t281.length co32)) (fun _ h_ => h_.1))) hb) (Kd.R_base ho0)) (Kd.R_base ho1)) (fun _ h_ => h_.1)); have n3_ := Aside0.mk (Kd.R_mono (Kd.R_told (Kd.R_told (Kd.R_old (by (with_reducible repeat (first | apply Kd.R_alloc)); exact (Kd.R_mono (Kd.R_far (p := ⟨gb284, 1, none⟩) (Kd.R_far (p := ⟨gb284, 0, none⟩) (Kd.R_types HO275.out BK284.out (by decide)) (fun _ hk => hk.2) (.slice Ao28 t278.length co28)) (fun _ hk => hk.2) (.slice Ao32 t281.length co32)) (fun _ h_ => h_.1))) hb) (Kd.R_base ho0)) (Kd.R_base ho1)) (fun _ h_ => h_.1)); have n4_ := Aside0.mk (Kd.R_mono (Kd.R_told (Kd.R_told (Kd.R_old (by (with_reducible repeat (first | apply Kd.R_alloc)); exact (Kd.R_mono (Kd.R_far (p := ⟨gb284, 1, none⟩) (Kd.R_far (p := ⟨gb284, 0, none⟩) (Kd.R_types HO280.out BK284.out (by decide)) (fun _ hk => hk.2) (.slice Ao28 t278.length co28)) (fun _ hk => hk.2) (.slice Ao32 t281.length co32)) (fun _ h_ => h_.1))) hb) (Kd.R_base ho0)) (Kd.R_base ho1)) (fun _ h_ => h_.1)); have n5_ := Aside0.mk (Kd.R_mono (Kd.R_told (Kd.R_told (Kd.R_old (by (with_reducible repeat (first | apply Kd.R_alloc)); exact (Kd.R_mono (Kd.R_far (p := ⟨gb284, 1, none⟩) (Kd.R_far (p := ⟨gb284, 0, none⟩) (Kd.R_types HO283.out BK284.out (by decide)) (fun _ hk => hk.2) (.slice Ao28 t278.length co28)) (fun _ hk => hk.2) (.slice Ao32 t281.length co32)) (fun _ h_ => h_.1))) hb) (Kd.R_base ho0)) (Kd.R_base ho1)) (fun _ h_ => h_.1)); have n6_ := Aside0.mk (Kd.R_lower (Kd.R_new' (Kd.R_new' (Kd.R_new' (Kd.R_new' (Kd.R_new' (Kd.R_new' ho0 (Kd.R_lt (by (with_reducible repeat (first | apply Kd.R_alloc)); exact (Kd.R_mono (Kd.R_far (p := ⟨gb284, 1, none⟩) (Kd.R_far (p := ⟨gb284, 0, none⟩) (Kd.R_types HO266.out BK284.out (by decide)) (fun _ hk => hk.2) (.slice Ao28 t278.length co28)) (fun _ hk => hk.2) (.slice Ao32 t281.length co32)) (fun _ h_ => h_.1))))) (Kd.R_lt (by (with_reducible repeat (first | apply Kd.R_alloc)); exact (Kd.R_mono (Kd.R_far (p := ⟨gb284, 1, none⟩) (Kd.R_far (p := ⟨gb284, 0, none⟩) (Kd.R_types HO269.out BK284.out (by decide)) (fun _ hk => hk.2) (.slice Ao28 t278.length co28)) (fun _ hk => hk.2) (.slice Ao32 t281.length co32)) (fun _ h_ => h_.1))))) (Kd.R_lt (by (with_reducible repeat (first | apply Kd.R_alloc)); exact (Kd.R_mono (Kd.R_far (p := ⟨gb284, 1, none⟩) (Kd.R_far (p := ⟨gb284, 0, none⟩) (Kd.R_types HO272.out BK284.out (by decide)) (fun _ hk => hk.2) (.slice Ao28 t278.length co28)) (fun _ hk => hk.2) (.slice Ao32 t281.length co32)) (fun _ h_ => h_.1))))) (Kd.R_lt (by (with_reducible repeat (first | apply Kd.R_alloc)); exact (Kd.R_mono (Kd.R_far (p := ⟨gb284, 1, none⟩) (Kd.R_far (p := ⟨gb284, 0, none⟩) (Kd.R_types HO275.out BK284.out (by decide)) (fun _ hk => hk.2) (.slice Ao28 t278.length co28)) (fun _ hk => hk.2) (.slice Ao32 t281.length co32)) (fun _ h_ => h_.1))))) (Kd.R_lt (by (with_reducible repeat (first | apply Kd.R_alloc)); exact (Kd.R_mono (Kd.R_far (p := ⟨gb284, 1, none⟩) (Kd.R_far (p := ⟨gb284, 0, none⟩) (Kd.R_types HO280.out BK284.out (by decide)) (fun _ hk => hk.2) (.slice Ao28 t278.length co28)) (fun _ hk => hk.2) (.slice Ao32 t281.length co32)) (fun _ h_ => h_.1))))) (Kd.R_lt (by (with_reducible repeat (first | apply Kd.R_alloc)); exact (Kd.R_mono (Kd.R_far (p := ⟨gb284, 1, none⟩) (Kd.R_far (p := ⟨gb284, 0, none⟩) (Kd.R_types HO283.out BK284.out (by decide)) (fun _ hk => hk.2) (.slice Ao28 t278.length co28)) (fun _ hk => hk.2) (.slice Ao32 t281.length co32)) (fun _ h_ => h_.1))))) (below_size (by repeat (first | (with_reducible first | exact HB.out | apply below_alloc | refine below_set ?_ GE262.out | refine below_set ?_ GE277.out | refine below_set ?_ GE284.out) | exact HB.out)))); have n7_ := Aside0.mk (Kd.R_lower (Kd.R_new' (Kd.R_new' (Kd.R_new' (Kd.R_new' (Kd.R_new' (Kd.R_new' ho1 (Kd.R_lt (by (with_reducible repeat (first | apply Kd.R_alloc)); exact (Kd.R_mono (Kd.R_far (p := ⟨gb284, 1, none⟩) (Kd.R_far (p := ⟨gb284, 0, none⟩) (Kd.R_types HO266.out BK284.out (by decide)) (fun _ hk => hk.2) (.slice Ao28 t278.length co28)) (fun _ hk => hk.2) (.slice Ao32 t281.length co32)) (fun _ h_ => h_.1))))) (Kd.R_lt (by (with_reducible repeat (first | apply Kd.R_alloc)); exact (Kd.R_mono (Kd.R_far (p := ⟨gb284, 1, none⟩) (Kd.R_far (p := ⟨gb284, 0, none⟩) (Kd.R_types HO269.out BK284.out (by decide)) (fun _ hk => hk.2) (.slice Ao28 t278.length co28)) (fun _ hk => hk.2) (.slice Ao32 t281.length co32)) (fun _ h_ => h_.1))))) (Kd.R_lt (by (with_reducible repeat (first | apply Kd.R_alloc)); exact (Kd.R_mono (Kd.R_far (p := ⟨gb284, 1, none⟩) (Kd.R_far (p := ⟨gb284, 0, none⟩) (Kd.R_types HO272.out BK284.out (by decide)) (fun _ hk => hk.2) (.slice Ao28 t278.length co28)) (fun _ hk => hk.2) (.slice Ao32 t281.length co32)) (fun _ h_ => h_.1))))) (Kd.R_lt (by (with_reducible repeat (first | apply Kd.R_alloc)); exact (Kd.R_mono (Kd.R_far (p := ⟨gb284, 1, none⟩) (Kd.R_far (p := ⟨gb284, 0, none⟩) (Kd.R_types HO275.out BK284.out (by decide)) (fun _ hk => hk.2) (.slice Ao28 t278.length co28)) (fun _ hk => hk.2) (.slice Ao32 t281.length co32)) (fun _ h_ => h_.1))))) (Kd.R_lt (by (with_reducible repeat (first | apply Kd.R_alloc)); exact (Kd.R_mono (Kd.R_far (p := ⟨gb284, 1, none⟩) (Kd.R_far (p := ⟨gb284, 0, none⟩) (Kd.R_types HO280.out BK284.out (by decide)) (fun _ hk => hk.2) (.slice Ao28 t278.length co28)) (fun _ hk => hk.2) (.slice Ao32 t281.length co32)) (fun _ h_ => h_.1))))) (Kd.R_lt (by (with_reducible repeat (first | apply Kd.R_alloc)); exact (Kd.R_mono (Kd.R_far (p := ⟨gb284, 1, none⟩) (Kd.R_far (p := ⟨gb284, 0, none⟩) (Kd.R_types HO283.out BK284.out (by decide)) (fun _ hk => hk.2) (.slice Ao28 t278.length co28)) (fun _ hk => hk.2) (.slice Ao32 t281.length co32)) (fun _ h_ => h_.1))))) (below_size (by repeat (first | (with_reducible first | exact HB.out | apply below_alloc | refine below_set ?_ GE262.out | refine below_set ?_ GE277.out | refine below_set ?_ GE284.out) | exact HB.out)))); have n8_ := Aside0.mk (blk_below (g := gb262) (o := .cells #[.slice A0_0 l0_0.length c0_0, .slice A0_1 l0_1.length c0_1] 30 (0, 0)) (by (with_reducible repeat (refine blk_alloc ?_ _)); refine blk_far ?_ NB262_284.out _; (with_reducible repeat (refine blk_alloc ?_ _)); refine blk_far ?_ NB262_284.out _; (with_reducible repeat (refine blk_alloc ?_ _)); exact BK262.out) hb); have n9_ := Aside0.mk (blk_below (g := gb277) (o := .cells #[.slice Ao21 t270.length co21, .slice Ao24 t273.length co24] 34 (0, 0)) (by (with_reducible repeat (refine blk_alloc ?_ _)); refine blk_far ?_ NB277_284.out _; (with_reducible repeat (refine blk_alloc ?_ _)); refine blk_far ?_ NB277_284.out _; (with_reducible repeat (refine blk_alloc ?_ _)); exact BK277.out) hb); have n10_ := Aside0.mk (blk_below (g := gb284) (o := .cells #[.slice Ao28 t278.length co28, .slice Ao32 t281.length co32] 34 (0, 0)) (by (with_reducible repeat (refine blk_alloc ?_ _)); refine blk_put (cs := #[.slice Ao28 t278.length co28, .slice none 0 0]) ?_ 1 _ rfl; (with_reducible repeat (refine blk_alloc ?_ _)); refine blk_put (cs := #[.slice none 0 0, .slice none 0 0]) ?_ 0 _ rfl; (with_reducible repeat (refine blk_alloc ?_ _)); exact BK284.out) hb); have n11_ := Aside0.mk (below_step (by repeat (first | (with_reducible first | exact HB.out | apply below_alloc | refine below_set ?_ GE262.out | refine below_set ?_ GE277.out | refine below_set ?_ GE284.out) | exact HB.out)) hb); clear HO266; clear HO269; clear HO272; clear HO275; clear HO280; clear HO283; clear BK262; clear BK277; clear BK284; clear HB; have HO266 := n0_; have HO269 := n1_; have HO272 := n2_; have HO275 := n3_; have HO280 := n4_; have HO283 := n5_; have HO287 := n6_; have HO290 := n7_; have BK262 := n8_; have BK277 := n9_; have BK284 := n10_; have HB := n11_; clear n0_ n1_ n2_ n3_ n4_ n5_ n6_ n7_ n8_ n9_ n10_ n11_; (try clear hb); (try clear hb2); (try clear hk); (try clear hi); (try clear ho0); (try clear ho1)) | ((with_reducible refine gate_dst (N := 7) rfl ?_); refine box_event ?hg (N := 7) ?hd (cs := #[.slice none 0 0, .slice none 0 0]) (t := 34) ?hr ?_; (case hd => rfl); (case hg => rfl); (case hr => first | (go_simp; done) | (go_simp; simp only [IntKind.wrap_u8]; done) | (go_simp; rfl)); intro gb292 hg w34 hbox hb; have n0_ := Aside0.mk (Kd.R_below (by (with_reducible repeat (first | apply Kd.R_alloc)); exact HO266.out) hb); have n1_ := Aside0.mk (Kd.R_below (by (with_reducible repeat (first | apply Kd.R_alloc)); exact HO269.out) hb); have n2_ := Aside0.mk (Kd.R_below (by (with_reducible repeat (first | apply Kd.R_alloc)); exact HO272.out) hb); have n3_ := Aside0.mk (Kd.R_below (by (with_reducible repeat (first | apply Kd.R_alloc)); exact HO275.out) hb); have n4_ := Aside0.mk (Kd.R_below (by (with_reducible repeat (first | apply Kd.R_alloc)); exact HO280.out) hb); have n5_ := Aside0.mk (Kd.R_below (by (with_reducible repeat (first | apply Kd.R_alloc)); exact HO283.out) hb); have n6_ := Aside0.mk (Kd.R_below (by (with_reducible repeat (first | apply Kd.R_alloc)); exact HO287.out) hb); have n7_ := Aside0.mk (Kd.R_below (by (with_reducible repeat (first | apply Kd.R_alloc)); exact HO290.out) hb); have n8_ := Aside0.mk (blk_below (g := gb262) (o := .cells #[.slice A0_0 l0_0.length c0_0, .slice A0_1 l0_1.length c0_1] 30 (0, 0)) (by (with_reducible repeat (refine blk_alloc ?_ _)); exact BK262.out) hb); have n9_ := Aside0.mk (blk_below (g := gb277) (o := .cells #[.slice Ao21 t270.length co21, .slice Ao24 t273.length co24] 34 (0, 0)) (by (with_reducible repeat (refine blk_alloc ?_ _)); exact BK277.out) hb); have n10_ := Aside0.mk (blk_below (g := gb284) (o := .cells #[.slice Ao28 t278.length co28, .slice Ao32 t281.length co32] 34 (0, 0)) (by (with_reducible repeat (refine blk_alloc ?_ _)); exact BK284.out) hb); have n11_ := Aside0.mk (below_step (by repeat (first | (with_reducible first | exact HB.out | apply below_alloc | refine below_set ?_ GE262.out | refine below_set ?_ GE277.out | refine below_set ?_ GE284.out) | exact HB.out)) hb); have n12_ := Aside0.mk (hbox); have n13_ := Aside0.mk ((by rw [hg]; exact (below_size (by repeat (first | (with_reducible first | exact HB.out | apply below_alloc | refine below_set ?_ GE262.out | refine below_set ?_ GE277.out | refine below_set ?_ GE284.out) | exact HB.out))) : w.heap.size ≤ gb292)); have n14_ := Aside0.mk ((by rw [hg]; exact (below_size (by repeat (first | (with_reducible first | exact HB.out | apply below_alloc | refine below_set ?_ GE262.out | refine below_set ?_ GE277.out | refine below_set ?_ GE284.out) | exact HB.out))) : w.heap.size ≤ gb292)); have n15_ := Aside0.mk ((by rw [hg]; exact Nat.ne_of_lt (blk_lt (g := gb262) (o := .cells #[.slice A0_0 l0_0.length c0_0, .slice A0_1 l0_1.length c0_1] 30 (0, 0)) (by (with_reducible repeat (refine blk_alloc ?_ _)); exact BK262.out)) : gb262 ≠ gb292)); have n16_ := Aside0.mk ((by rw [hg]; exact Nat.ne_of_gt (blk_lt (g := gb262) (o := .cells #[.slice A0_0 l0_0.length c0_0, .slice A0_1 l0_1.length c0_1] 30 (0, 0)) (by (with_reducible repeat (refine blk_alloc ?_ _)); exact BK262.out)) : gb292 ≠ gb262)); have n17_ := Aside0.mk ((by rw [hg]; exact Nat.ne_of_lt (blk_lt (g := gb277) (o := .cells #[.slice Ao21 t270.length co21, .slice Ao24 t273.length co24] 34 (0, 0)) (by (with_reducible repeat (refine blk_alloc ?_ _)); exact BK277.out)) : gb277 ≠ gb292)); have n18_ := Aside0.mk ((by rw [hg]; exact Nat.ne_of_gt (blk_lt (g := gb277) (o := .cells #[.slice Ao21 t270.length co21, .slice Ao24 t273.length co24] 34 (0, 0)) (by (with_reducible repeat (refine blk_alloc ?_ _)); exact BK277.out)) : gb292 ≠ gb277)); have n19_ := Aside0.mk ((by rw [hg]; exact Nat.ne_of_lt (blk_lt (g := gb284) (o := .cells #[.slice Ao28 t278.length co28, .slice Ao32 t281.length co32] 34 (0, 0)) (by (with_reducible repeat (refine blk_alloc ?_ _)); exact BK284.out)) : gb284 ≠ gb292)); have n20_ := Aside0.mk ((by rw [hg]; exact Nat.ne_of_gt (blk_lt (g := gb284) (o := .cells #[.slice Ao28 t278.length co28, .slice Ao32 t281.length co32] 34 (0, 0)) (by (with_reducible repeat (refine blk_alloc ?_ _)); exact BK284.out)) : gb292 ≠ gb284)); clear HO266; clear HO269; clear HO272; clear HO275; clear HO280; clear HO283; clear HO287; clear HO290; clear BK262; clear BK277; clear BK284; clear HB; have HO266 := n0_; have HO269 := n1_; have HO272 := n2_; have HO275 := n3_; have HO280 := n4_; have HO283 := n5_; have HO287 := n6_; have HO290 := n7_; have BK262 := n8_; have BK277 := n9_; have BK284 := n10_; have HB := n11_; have BK292 := n12_; have GW292 := n13_; have GE292 := n14_; have NB262_292 := n15_; have NB292_262 := n16_; have NB277_292 := n17_; have NB292_277 := n18_; have NB284_292 := n19_; have NB292_284 := n20_; clear n0_ n1_ n2_ n3_ n4_ n5_ n6_ n7_ n8_ n9_ n10_ n11_ n12_ n13_ n14_ n15_ n16_ n17_ n18_ n19_ n20_; clear hb hbox hg; obtain ⟨Ao35, co35, eo35⟩ := Kd.R_slice HO287.out; subst eo35; have hnb36 := NB292_262.out; have hnc36 := NB262_292.out; have hnb37 := NB292_277.out; have hnc37 := NB277_292.out; have hnb38 := NB292_284.out; have hnc38 := NB284_292.out; have hcz39_0 : w34.cell? ⟨gb292, 0, none⟩ = some (.slice none 0 0) := (blk_cell BK292.out 0).trans rfl; have hcz39_1 : w34.cell? ⟨gb292, 1, none⟩ = some (.slice none 0 0) := (blk_cell BK292.out 1).trans rfl; have hfz39_0 := blk_frozen BK292.out 0; have hfz39_1 := blk_frozen BK292.out 1; obtain ⟨Ao40, co40, eo40⟩ := Kd.R_slice HO290.out; subst eo40))
    (try simp only [Act.put, List.setIfInBounds_toArray, List.set_cons_zero, List.set_cons_succ])
    go_cut [40] (fun v40 wc => ∃ (kq : Nat) (x40_10 : Bool), v40 = .bool x40_10 ∧ Aside0 (laws_FnExactMendDisk.j0 kq t276 t291 x40_10 l0_0 l0_1 t270 t273 t278 t281 t285 t288 = some r) ∧ Aside0 (kq ≤ k) ∧ Aside0 (Kd.R Kd.string 9 wc w.heap.size (fun k_ => some k_ ≠ ((.slice Ao24 t273.length co24) : Value).ownBlock ∧ some k_ ≠ ((.slice Ao28 t278.length co28) : Value).ownBlock ∧ some k_ ≠ ((.slice Ao32 t281.length co32) : Value).ownBlock ∧ some k_ ≠ ((.slice Ao35 t285.length co35) : Value).ownBlock ∧ some k_ ≠ ((.slice Ao40 t288.length co40) : Value).ownBlock) (.slice Ao21 t270.length co21) t270) ∧ Aside0 (Kd.R Kd.string 9 wc w.heap.size (fun k_ => some k_ ≠ ((.slice Ao21 t270.length co21) : Value).ownBlock ∧ some k_ ≠ ((.slice Ao28 t278.length co28) : Value).ownBlock ∧ some k_ ≠ ((.slice Ao32 t281.length co32) : Value).ownBlock ∧ some k_ ≠ ((.slice Ao35 t285.length co35) : Value).ownBlock ∧ some k_ ≠ ((.slice Ao40 t288.length co40) : Value).ownBlock) (.slice Ao24 t273.length co24) t273) ∧ Aside0 (Kd.R Kd.string 9 wc w.heap.size (fun k_ => some k_ ≠ ((.slice Ao21 t270.length co21) : Value).ownBlock ∧ some k_ ≠ ((.slice Ao24 t273.length co24) : Value).ownBlock ∧ some k_ ≠ ((.slice Ao32 t281.length co32) : Value).ownBlock ∧ some k_ ≠ ((.slice Ao35 t285.length co35) : Value).ownBlock ∧ some k_ ≠ ((.slice Ao40 t288.length co40) : Value).ownBlock) (.slice Ao28 t278.length co28) t278) ∧ Aside0 (Kd.R Kd.string 9 wc w.heap.size (fun k_ => some k_ ≠ ((.slice Ao21 t270.length co21) : Value).ownBlock ∧ some k_ ≠ ((.slice Ao24 t273.length co24) : Value).ownBlock ∧ some k_ ≠ ((.slice Ao28 t278.length co28) : Value).ownBlock ∧ some k_ ≠ ((.slice Ao35 t285.length co35) : Value).ownBlock ∧ some k_ ≠ ((.slice Ao40 t288.length co40) : Value).ownBlock) (.slice Ao32 t281.length co32) t281) ∧ Aside0 (Kd.R Kd.string 9 wc w.heap.size (fun k_ => some k_ ≠ ((.slice Ao21 t270.length co21) : Value).ownBlock ∧ some k_ ≠ ((.slice Ao24 t273.length co24) : Value).ownBlock ∧ some k_ ≠ ((.slice Ao28 t278.length co28) : Value).ownBlock ∧ some k_ ≠ ((.slice Ao32 t281.length co32) : Value).ownBlock ∧ some k_ ≠ ((.slice Ao40 t288.length co40) : Value).ownBlock) (.slice Ao35 t285.length co35) t285) ∧ Aside0 (Kd.R Kd.string 9 wc w.heap.size (fun k_ => some k_ ≠ ((.slice Ao21 t270.length co21) : Value).ownBlock ∧ some k_ ≠ ((.slice Ao24 t273.length co24) : Value).ownBlock ∧ some k_ ≠ ((.slice Ao28 t278.length co28) : Value).ownBlock ∧ some k_ ≠ ((.slice Ao32 t281.length co32) : Value).ownBlock ∧ some k_ ≠ ((.slice Ao35 t285.length co35) : Value).ownBlock) (.slice Ao40 t288.length co40) t288) ∧ Aside0 (wc.heap[gb262]? = some (.cells #[(.slice A0_0 l0_0.length c0_0), (.slice A0_1 l0_1.length c0_1)] 30 (0, 0))) ∧ Aside0 (wc.heap[gb277]? = some (.cells #[(.slice Ao21 t270.length co21), (.slice Ao24 t273.length co24)] 34 (0, 0))) ∧ Aside0 (wc.heap[gb284]? = some (.cells #[(.slice Ao28 t278.length co28), (.slice Ao32 t281.length co32)] 34 (0, 0))) ∧ Aside0 (wc.heap[gb292]? = some (.cells #[(.slice Ao35 t285.length co35), (.slice Ao40 t288.length co40)] 34 (0, 0))) ∧ Aside0 (Below w.heap.size w wc))
    case first =>
      have H := HC11.out
      clear HC11
      replace H := Option.bind_eq_some_iff.mp H
      obtain ⟨t293, A410, H⟩ := H
      replace H : (if t293 = true then (laws_FnExactMendDisk.j0 k t276 t291 (t291 != t276) l0_0 l0_1 t270 t273 t278 t281 t285 t288) else (laws_FnExactMendDisk.j0 k t276 t291 true l0_0 l0_1 t270 t273 t278 t281 t285 t288)) = some r := H
      have A41 := Aside0.mk A410
      clear A410
      by_cases c42 : t293 = true
      · subst c42
        have H1 : (laws_FnExactMendDisk.j0 k t276 t291 (t291 != t276) l0_0 l0_1 t270 t273 t278 t281 t285 t288) = some r := by rw [if_pos rfl] at H; exact H
        clear H
        have H := H1
        clear H1
        have H' := Aside0.mk H
        clear H
        have hnb43 := NB292_262.out
        have hnc43 := NB262_292.out
        have hnb44 := NB292_277.out
        have hnc44 := NB277_292.out
        have hnb45 := NB292_284.out
        have hnc45 := NB284_292.out
        have hcz46_0 : w34.cell? ⟨gb292, 0, none⟩ = some (.slice none 0 0) := (blk_cell BK292.out 0).trans rfl
        have hcz46_1 : w34.cell? ⟨gb292, 1, none⟩ = some (.slice none 0 0) := (blk_cell BK292.out 1).trans rfl
        have hfz46_0 := blk_frozen BK292.out 0
        have hfz46_1 := blk_frozen BK292.out 1
        have hnb47 := NB277_262.out
        have hnc47 := NB262_277.out
        have hnb48 := NB277_284.out
        have hnc48 := NB284_277.out
        have hcz49_0 : w34.cell? ⟨gb277, 0, none⟩ = some (.slice Ao21 t270.length co21) := (blk_cell BK277.out 0).trans rfl
        have hcz49_1 : w34.cell? ⟨gb277, 1, none⟩ = some (.slice Ao24 t273.length co24) := (blk_cell BK277.out 1).trans rfl
        have hfz49_0 := blk_frozen BK277.out 0
        have hfz49_1 := blk_frozen BK277.out 1
        go_wp2_with (first | ((with_reducible refine gate_callee (f := 18) rfl ?_); refine goesL_ (some 34) rfl rfl Try.func18 (by kernel_rfl) rfl #[.agg #[.slice Ao35 t285.length co35, .slice Ao40 t288.length co40], .agg #[.slice Ao21 t270.length co21, .slice Ao24 t273.length co24]] rfl (by (try simp only [List.map_toArray, List.map_cons, List.map_nil]); first | done | rfl | (simp only [List.length_drop, List.length_take]; rfl)) ?_; (with_reducible refine (laws_eqDisk.calls k _ _ t285 _ _ t288 _ _ t270 _ _ t273 true _ ?side1 ?side2 ?side3 ?side4 ?side5 ?side6 ?side7 ?side8 A41.out).mono ?_); (case side1 => refine (Kd.R_reads' (e := 9) (base := w.heap.size) (ok := fun k_ => ((((((some k_ ≠ (.slice Ao40 t288.length co40 : Value).ownBlock ∧ some k_ ≠ (.slice Ao17 t264.length co17 : Value).ownBlock) ∧ some k_ ≠ (.slice Ao18 t267.length co18 : Value).ownBlock) ∧ some k_ ≠ (.slice Ao21 t270.length co21 : Value).ownBlock) ∧ some k_ ≠ (.slice Ao24 t273.length co24 : Value).ownBlock) ∧ some k_ ≠ (.slice Ao28 t278.length co28 : Value).ownBlock) ∧ some k_ ≠ (.slice Ao32 t281.length co32 : Value).ownBlock)) (n := t285.length) (c := co35) ?_).2.2; exact (by (with_reducible repeat (first | apply Kd.R_alloc)); exact (Kd.R_mono (Kd.R_far (p := ⟨gb292, 1, none⟩) (Kd.R_far (p := ⟨gb292, 0, none⟩) (Kd.R_types HO287.out BK292.out (by decide)) (fun _ hk => hk.2) (.slice Ao35 t285.length co35)) (fun _ hk => hk.2) (.slice Ao40 t288.length co40)) (fun _ h_ => h_.1)))); (case side2 => exact (Kd.R_reads' HO287.out).2.1); (case side3 => refine (Kd.R_reads' (e := 9) (base := w.heap.size) (ok := fun k_ => ((((((some k_ ≠ (.slice Ao35 t285.length co35 : Value).ownBlock ∧ some k_ ≠ (.slice Ao17 t264.length co17 : Value).ownBlock) ∧ some k_ ≠ (.slice Ao18 t267.length co18 : Value).ownBlock) ∧ some k_ ≠ (.slice Ao21 t270.length co21 : Value).ownBlock) ∧ some k_ ≠ (.slice Ao24 t273.length co24 : Value).ownBlock) ∧ some k_ ≠ (.slice Ao28 t278.length co28 : Value).ownBlock) ∧ some k_ ≠ (.slice Ao32 t281.length co32 : Value).ownBlock)) (n := t288.length) (c := co40) ?_).2.2; exact (by (with_reducible repeat (first | apply Kd.R_alloc)); exact (Kd.R_mono (Kd.R_far (p := ⟨gb292, 1, none⟩) (Kd.R_far (p := ⟨gb292, 0, none⟩) (Kd.R_types HO290.out BK292.out (by decide)) (fun _ hk => hk.2) (.slice Ao35 t285.length co35)) (fun _ hk => hk.2) (.slice Ao40 t288.length co40)) (fun _ h_ => h_.1)))); (case side4 => exact (Kd.R_reads' HO290.out).2.1); (case side5 => refine (Kd.R_reads' (e := 9) (base := w.heap.size) (ok := fun k_ => ((((((some k_ ≠ (.slice Ao24 t273.length co24 : Value).ownBlock ∧ some k_ ≠ (.slice Ao17 t264.length co17 : Value).ownBlock) ∧ some k_ ≠ (.slice Ao18 t267.length co18 : Value).ownBlock) ∧ some k_ ≠ (.slice Ao28 t278.length co28 : Value).ownBlock) ∧ some k_ ≠ (.slice Ao32 t281.length co32 : Value).ownBlock) ∧ some k_ ≠ (.slice Ao35 t285.length co35 : Value).ownBlock) ∧ some k_ ≠ (.slice Ao40 t288.length co40 : Value).ownBlock)) (n := t270.length) (c := co21) ?_).2.2; exact (by (with_reducible repeat (first | apply Kd.R_alloc)); exact (Kd.R_mono (Kd.R_far (p := ⟨gb292, 1, none⟩) (Kd.R_far (p := ⟨gb292, 0, none⟩) (Kd.R_types HO272.out BK292.out (by decide)) (fun _ hk => hk.2) (.slice Ao35 t285.length co35)) (fun _ hk => hk.2) (.slice Ao40 t288.length co40)) (fun _ h_ => h_.1)))); (case side6 => exact (Kd.R_reads' HO272.out).2.1); (case side7 => refine (Kd.R_reads' (e := 9) (base := w.heap.size) (ok := fun k_ => ((((((some k_ ≠ (.slice Ao21 t270.length co21 : Value).ownBlock ∧ some k_ ≠ (.slice Ao17 t264.length co17 : Value).ownBlock) ∧ some k_ ≠ (.slice Ao18 t267.length co18 : Value).ownBlock) ∧ some k_ ≠ (.slice Ao28 t278.length co28 : Value).ownBlock) ∧ some k_ ≠ (.slice Ao32 t281.length co32 : Value).ownBlock) ∧ some k_ ≠ (.slice Ao35 t285.length co35 : Value).ownBlock) ∧ some k_ ≠ (.slice Ao40 t288.length co40 : Value).ownBlock)) (n := t273.length) (c := co24) ?_).2.2; exact (by (with_reducible repeat (first | apply Kd.R_alloc)); exact (Kd.R_mono (Kd.R_far (p := ⟨gb292, 1, none⟩) (Kd.R_far (p := ⟨gb292, 0, none⟩) (Kd.R_types HO275.out BK292.out (by decide)) (fun _ hk => hk.2) (.slice Ao35 t285.length co35)) (fun _ hk => hk.2) (.slice Ao40 t288.length co40)) (fun _ h_ => h_.1)))); (case side8 => exact (Kd.R_reads' HO275.out).2.1); rintro e w50 ⟨rfl, hb⟩; refine ⟨_, rfl, ?_⟩; have n0_ := Aside0.mk (Kd.R_below (by (with_reducible repeat (first | apply Kd.R_alloc)); exact (Kd.R_mono (Kd.R_far (p := ⟨gb292, 1, none⟩) (Kd.R_far (p := ⟨gb292, 0, none⟩) (Kd.R_types HO266.out BK292.out (by decide)) (fun _ hk => hk.2) (.slice Ao35 t285.length co35)) (fun _ hk => hk.2) (.slice Ao40 t288.length co40)) (fun _ h_ => h_.1))) hb); have n1_ := Aside0.mk (Kd.R_below (by (with_reducible repeat (first | apply Kd.R_alloc)); exact (Kd.R_mono (Kd.R_far (p := ⟨gb292, 1, none⟩) (Kd.R_far (p := ⟨gb292, 0, none⟩) (Kd.R_types HO269.out BK292.out (by decide)) (fun _ hk => hk.2) (.slice Ao35 t285.length co35)) (fun _ hk => hk.2) (.slice Ao40 t288.length co40)) (fun _ h_ => h_.1))) hb); have n2_ := Aside0.mk (Kd.R_below (by (with_reducible repeat (first | apply Kd.R_alloc)); exact (Kd.R_mono (Kd.R_far (p := ⟨gb292, 1, none⟩) (Kd.R_far (p := ⟨gb292, 0, none⟩) (Kd.R_types HO272.out BK292.out (by decide)) (fun _ hk => hk.2) (.slice Ao35 t285.length co35)) (fun _ hk => hk.2) (.slice Ao40 t288.length co40)) (fun _ h_ => h_.1))) hb); have n3_ := Aside0.mk (Kd.R_below (by (with_reducible repeat (first | apply Kd.R_alloc)); exact (Kd.R_mono (Kd.R_far (p := ⟨gb292, 1, none⟩) (Kd.R_far (p := ⟨gb292, 0, none⟩) (Kd.R_types HO275.out BK292.out (by decide)) (fun _ hk => hk.2) (.slice Ao35 t285.length co35)) (fun _ hk => hk.2) (.slice Ao40 t288.length co40)) (fun _ h_ => h_.1))) hb); have n4_ := Aside0.mk (Kd.R_below (by (with_reducible repeat (first | apply Kd.R_alloc)); exact (Kd.R_mono (Kd.R_far (p := ⟨gb292, 1, none⟩) (Kd.R_far (p := ⟨gb292, 0, none⟩) (Kd.R_types HO280.out BK292.out (by decide)) (fun _ hk => hk.2) (.slice Ao35 t285.length co35)) (fun _ hk => hk.2) (.slice Ao40 t288.length co40)) (fun _ h_ => h_.1))) hb); have n5_ := Aside0.mk (Kd.R_below (by (with_reducible repeat (first | apply Kd.R_alloc)); exact (Kd.R_mono (Kd.R_far (p := ⟨gb292, 1, none⟩) (Kd.R_far (p := ⟨gb292, 0, none⟩) (Kd.R_types HO283.out BK292.out (by decide)) (fun _ hk => hk.2) (.slice Ao35 t285.length co35)) (fun _ hk => hk.2) (.slice Ao40 t288.length co40)) (fun _ h_ => h_.1))) hb); have n6_ := Aside0.mk (Kd.R_below (by (with_reducible repeat (first | apply Kd.R_alloc)); exact (Kd.R_mono (Kd.R_far (p := ⟨gb292, 1, none⟩) (Kd.R_far (p := ⟨gb292, 0, none⟩) (Kd.R_types HO287.out BK292.out (by decide)) (fun _ hk => hk.2) (.slice Ao35 t285.length co35)) (fun _ hk => hk.2) (.slice Ao40 t288.length co40)) (fun _ h_ => h_.1))) hb); have n7_ := Aside0.mk (Kd.R_below (by (with_reducible repeat (first | apply Kd.R_alloc)); exact (Kd.R_mono (Kd.R_far (p := ⟨gb292, 1, none⟩) (Kd.R_far (p := ⟨gb292, 0, none⟩) (Kd.R_types HO290.out BK292.out (by decide)) (fun _ hk => hk.2) (.slice Ao35 t285.length co35)) (fun _ hk => hk.2) (.slice Ao40 t288.length co40)) (fun _ h_ => h_.1))) hb); have n8_ := Aside0.mk (blk_below (g := gb262) (o := .cells #[.slice A0_0 l0_0.length c0_0, .slice A0_1 l0_1.length c0_1] 30 (0, 0)) (by (with_reducible repeat (refine blk_alloc ?_ _)); refine blk_far ?_ NB262_292.out _; (with_reducible repeat (refine blk_alloc ?_ _)); refine blk_far ?_ NB262_292.out _; (with_reducible repeat (refine blk_alloc ?_ _)); exact BK262.out) hb); have n9_ := Aside0.mk (blk_below (g := gb277) (o := .cells #[.slice Ao21 t270.length co21, .slice Ao24 t273.length co24] 34 (0, 0)) (by (with_reducible repeat (refine blk_alloc ?_ _)); refine blk_far ?_ NB277_292.out _; (with_reducible repeat (refine blk_alloc ?_ _)); refine blk_far ?_ NB277_292.out _; (with_reducible repeat (refine blk_alloc ?_ _)); exact BK277.out) hb); have n10_ := Aside0.mk (blk_below (g := gb284) (o := .cells #[.slice Ao28 t278.length co28, .slice Ao32 t281.length co32] 34 (0, 0)) (by (with_reducible repeat (refine blk_alloc ?_ _)); refine blk_far ?_ NB284_292.out _; (with_reducible repeat (refine blk_alloc ?_ _)); refine blk_far ?_ NB284_292.out _; (with_reducible repeat (refine blk_alloc ?_ _)); exact BK284.out) hb); have n11_ := Aside0.mk (blk_below (g := gb292) (o := .cells #[.slice Ao35 t285.length co35, .slice Ao40 t288.length co40] 34 (0, 0)) (by (with_reducible repeat (refine blk_alloc ?_ _)); refine blk_put (cs := #[.slice Ao35 t285.length co35, .slice none 0 0]) ?_ 1 _ rfl; (with_reducible repeat (refine blk_alloc ?_ _)); refine blk_put (cs := #[.slice none 0 0, .slice none 0 0]) ?_ 0 _ rfl; (with_reducible repeat (refine blk_alloc ?_ _)); exact BK292.out) hb); have n12_ := Aside0.mk (below_step (by repeat (first | (with_reducible first | exact HB.out | apply below_alloc | refine below_set ?_ GE262.out | refine below_set ?_ GE277.out | refine below_set ?_ GE284.out | refine below_set ?_ GE292.out) | exact HB.out)) hb); clear HO266; clear HO269; clear HO272; clear HO275; clear HO280; clear HO283; clear HO287; clear HO290; clear BK262; clear BK277; clear BK284; clear BK292; clear HB; have HO266 := n0_; have HO269 := n1_; have HO272 := n2_; have HO275 := n3_; have HO280 := n4_; have HO283 := n5_; have HO287 := n6_; have HO290 := n7_; have BK262 := n8_; have BK277 := n9_; have BK284 := n10_; have BK292 := n11_; have HB := n12_; clear n0_ n1_ n2_ n3_ n4_ n5_ n6_ n7_ n8_ n9_ n10_ n11_ n12_; (try clear hb); (try clear hb2); (try clear hk); (try clear hi)))
        go_meet
        case rel => exact ⟨_, ((t291 != t276)), (by first | rfl | (simp; done) | (simp [*]; done)), H', ⟨by first | omega | exact Nat.le_refl _⟩, ⟨by (with_reducible repeat (first | apply Kd.R_alloc)); exact Kd.R_mono HO272.out (fun _ hk => ⟨hk.1.1.1.1.1.1, ⟨hk.1.1.1.2, ⟨hk.1.1.2, ⟨hk.1.2, hk.2⟩⟩⟩⟩)⟩, ⟨by (with_reducible repeat (first | apply Kd.R_alloc)); exact Kd.R_mono HO275.out (fun _ hk => ⟨hk.1.1.1.1.1.1, ⟨hk.1.1.1.2, ⟨hk.1.1.2, ⟨hk.1.2, hk.2⟩⟩⟩⟩)⟩, ⟨by (with_reducible repeat (first | apply Kd.R_alloc)); exact Kd.R_mono HO280.out (fun _ hk => ⟨hk.1.1.1.2, ⟨hk.1.1.2, ⟨hk.1.1.1.1.1.1, ⟨hk.1.2, hk.2⟩⟩⟩⟩)⟩, ⟨by (with_reducible repeat (first | apply Kd.R_alloc)); exact Kd.R_mono HO283.out (fun _ hk => ⟨hk.1.1.1.2, ⟨hk.1.1.2, ⟨hk.1.1.1.1.1.1, ⟨hk.1.2, hk.2⟩⟩⟩⟩)⟩, ⟨by (with_reducible repeat (first | apply Kd.R_alloc)); exact Kd.R_mono HO287.out (fun _ hk => ⟨hk.1.1.1.2, ⟨hk.1.1.2, ⟨hk.1.2, ⟨hk.2, hk.1.1.1.1.1.1⟩⟩⟩⟩)⟩, ⟨by (with_reducible repeat (first | apply Kd.R_alloc)); exact Kd.R_mono HO290.out (fun _ hk => ⟨hk.1.1.1.2, ⟨hk.1.1.2, ⟨hk.1.2, ⟨hk.2, hk.1.1.1.1.1.1⟩⟩⟩⟩)⟩, ⟨by (with_reducible repeat (refine blk_alloc ?_ _)); exact BK262.out⟩, ⟨by (with_reducible repeat (refine blk_alloc ?_ _)); exact BK277.out⟩, ⟨by (with_reducible repeat (refine blk_alloc ?_ _)); exact BK284.out⟩, ⟨by (with_reducible repeat (refine blk_alloc ?_ _)); exact BK292.out⟩, ⟨by repeat (first | (with_reducible first | exact HB.out | apply below_alloc | refine below_set ?_ GE262.out | refine below_set ?_ GE277.out | refine below_set ?_ GE284.out | refine below_set ?_ GE292.out) | exact HB.out)⟩⟩
      · replace c42 := Bool.eq_false_iff.mpr c42
        subst c42
        have H1 : (laws_FnExactMendDisk.j0 k t276 t291 true l0_0 l0_1 t270 t273 t278 t281 t285 t288) = some r := by rw [if_neg (show ¬ (false = true) by decide)] at H; exact H
        clear H
        have H := H1
        clear H1
        have H' := Aside0.mk H
        clear H
        have hnb51 := NB292_262.out
        have hnc51 := NB262_292.out
        have hnb52 := NB292_277.out
        have hnc52 := NB277_292.out
        have hnb53 := NB292_284.out
        have hnc53 := NB284_292.out
        have hcz54_0 : w34.cell? ⟨gb292, 0, none⟩ = some (.slice none 0 0) := (blk_cell BK292.out 0).trans rfl
        have hcz54_1 : w34.cell? ⟨gb292, 1, none⟩ = some (.slice none 0 0) := (blk_cell BK292.out 1).trans rfl
        have hfz54_0 := blk_frozen BK292.out 0
        have hfz54_1 := blk_frozen BK292.out 1
        have hnb55 := NB277_262.out
        have hnc55 := NB262_277.out
        have hnb56 := NB277_284.out
        have hnc56 := NB284_277.out
        have hcz57_0 : w34.cell? ⟨gb277, 0, none⟩ = some (.slice Ao21 t270.length co21) := (blk_cell BK277.out 0).trans rfl
        have hcz57_1 : w34.cell? ⟨gb277, 1, none⟩ = some (.slice Ao24 t273.length co24) := (blk_cell BK277.out 1).trans rfl
        have hfz57_0 := blk_frozen BK277.out 0
        have hfz57_1 := blk_frozen BK277.out 1
        go_wp2_with (first | ((with_reducible refine gate_callee (f := 18) rfl ?_); refine goesL_ (some 34) rfl rfl Try.func18 (by kernel_rfl) rfl #[.agg #[.slice Ao35 t285.length co35, .slice Ao40 t288.length co40], .agg #[.slice Ao21 t270.length co21, .slice Ao24 t273.length co24]] rfl (by (try simp only [List.map_toArray, List.map_cons, List.map_nil]); first | done | rfl | (simp only [List.length_drop, List.length_take]; rfl)) ?_; (with_reducible refine (laws_eqDisk.calls k _ _ t285 _ _ t288 _ _ t270 _ _ t273 false _ ?side1 ?side2 ?side3 ?side4 ?side5 ?side6 ?side7 ?side8 A41.out).mono ?_); (case side1 => refine (Kd.R_reads' (e := 9) (base := w.heap.size) (ok := fun k_ => ((((((some k_ ≠ (.slice Ao40 t288.length co40 : Value).ownBlock ∧ some k_ ≠ (.slice Ao17 t264.length co17 : Value).ownBlock) ∧ some k_ ≠ (.slice Ao18 t267.length co18 : Value).ownBlock) ∧ some k_ ≠ (.slice Ao21 t270.length co21 : Value).ownBlock) ∧ some k_ ≠ (.slice Ao24 t273.length co24 : Value).ownBlock) ∧ some k_ ≠ (.slice Ao28 t278.length co28 : Value).ownBlock) ∧ some k_ ≠ (.slice Ao32 t281.length co32 : Value).ownBlock)) (n := t285.length) (c := co35) ?_).2.2; exact (by (with_reducible repeat (first | apply Kd.R_alloc)); exact (Kd.R_mono (Kd.R_far (p := ⟨gb292, 1, none⟩) (Kd.R_far (p := ⟨gb292, 0, none⟩) (Kd.R_types HO287.out BK292.out (by decide)) (fun _ hk => hk.2) (.slice Ao35 t285.length co35)) (fun _ hk => hk.2) (.slice Ao40 t288.length co40)) (fun _ h_ => h_.1)))); (case side2 => exact (Kd.R_reads' HO287.out).2.1); (case side3 => refine (Kd.R_reads' (e := 9) (base := w.heap.size) (ok := fun k_ => ((((((some k_ ≠ (.slice Ao35 t285.length co35 : Value).ownBlock ∧ some k_ ≠ (.slice Ao17 t264.length co17 : Value).ownBlock) ∧ some k_ ≠ (.slice Ao18 t267.length co18 : Value).ownBlock) ∧ some k_ ≠ (.slice Ao21 t270.length co21 : Value).ownBlock) ∧ some k_ ≠ (.slice Ao24 t273.length co24 : Value).ownBlock) ∧ some k_ ≠ (.slice Ao28 t278.length co28 : Value).ownBlock) ∧ some k_ ≠ (.slice Ao32 t281.length co32 : Value).ownBlock)) (n := t288.length) (c := co40) ?_).2.2; exact (by (with_reducible repeat (first | apply Kd.R_alloc)); exact (Kd.R_mono (Kd.R_far (p := ⟨gb292, 1, none⟩) (Kd.R_far (p := ⟨gb292, 0, none⟩) (Kd.R_types HO290.out BK292.out (by decide)) (fun _ hk => hk.2) (.slice Ao35 t285.length co35)) (fun _ hk => hk.2) (.slice Ao40 t288.length co40)) (fun _ h_ => h_.1)))); (case side4 => exact (Kd.R_reads' HO290.out).2.1); (case side5 => refine (Kd.R_reads' (e := 9) (base := w.heap.size) (ok := fun k_ => ((((((some k_ ≠ (.slice Ao24 t273.length co24 : Value).ownBlock ∧ some k_ ≠ (.slice Ao17 t264.length co17 : Value).ownBlock) ∧ some k_ ≠ (.slice Ao18 t267.length co18 : Value).ownBlock) ∧ some k_ ≠ (.slice Ao28 t278.length co28 : Value).ownBlock) ∧ some k_ ≠ (.slice Ao32 t281.length co32 : Value).ownBlock) ∧ some k_ ≠ (.slice Ao35 t285.length co35 : Value).ownBlock) ∧ some k_ ≠ (.slice Ao40 t288.length co40 : Value).ownBlock)) (n := t270.length) (c := co21) ?_).2.2; exact (by (with_reducible repeat (first | apply Kd.R_alloc)); exact (Kd.R_mono (Kd.R_far (p := ⟨gb292, 1, none⟩) (Kd.R_far (p := ⟨gb292, 0, none⟩) (Kd.R_types HO272.out BK292.out (by decide)) (fun _ hk => hk.2) (.slice Ao35 t285.length co35)) (fun _ hk => hk.2) (.slice Ao40 t288.length co40)) (fun _ h_ => h_.1)))); (case side6 => exact (Kd.R_reads' HO272.out).2.1); (case side7 => refine (Kd.R_reads' (e := 9) (base := w.heap.size) (ok := fun k_ => ((((((some k_ ≠ (.slice Ao21 t270.length co21 : Value).ownBlock ∧ some k_ ≠ (.slice Ao17 t264.length co17 : Value).ownBlock) ∧ some k_ ≠ (.slice Ao18 t267.length co18 : Value).ownBlock) ∧ some k_ ≠ (.slice Ao28 t278.length co28 : Value).ownBlock) ∧ some k_ ≠ (.slice Ao32 t281.length co32 : Value).ownBlock) ∧ some k_ ≠ (.slice Ao35 t285.length co35 : Value).ownBlock) ∧ some k_ ≠ (.slice Ao40 t288.length co40 : Value).ownBlock)) (n := t273.length) (c := co24) ?_).2.2; exact (by (with_reducible repeat (first | apply Kd.R_alloc)); exact (Kd.R_mono (Kd.R_far (p := ⟨gb292, 1, none⟩) (Kd.R_far (p := ⟨gb292, 0, none⟩) (Kd.R_types HO275.out BK292.out (by decide)) (fun _ hk => hk.2) (.slice Ao35 t285.length co35)) (fun _ hk => hk.2) (.slice Ao40 t288.length co40)) (fun _ h_ => h_.1)))); (case side8 => exact (Kd.R_reads' HO275.out).2.1); rintro e w58 ⟨rfl, hb⟩; refine ⟨_, rfl, ?_⟩; have n0_ := Aside0.mk (Kd.R_below (by (with_reducible repeat (first | apply Kd.R_alloc)); exact (Kd.R_mono (Kd.R_far (p := ⟨gb292, 1, none⟩) (Kd.R_far (p := ⟨gb292, 0, none⟩) (Kd.R_types HO266.out BK292.out (by decide)) (fun _ hk => hk.2) (.slice Ao35 t285.length co35)) (fun _ hk => hk.2) (.slice Ao40 t288.length co40)) (fun _ h_ => h_.1))) hb); have n1_ := Aside0.mk (Kd.R_below (by (with_reducible repeat (first | apply Kd.R_alloc)); exact (Kd.R_mono (Kd.R_far (p := ⟨gb292, 1, none⟩) (Kd.R_far (p := ⟨gb292, 0, none⟩) (Kd.R_types HO269.out BK292.out (by decide)) (fun _ hk => hk.2) (.slice Ao35 t285.length co35)) (fun _ hk => hk.2) (.slice Ao40 t288.length co40)) (fun _ h_ => h_.1))) hb); have n2_ := Aside0.mk (Kd.R_below (by (with_reducible repeat (first | apply Kd.R_alloc)); exact (Kd.R_mono (Kd.R_far (p := ⟨gb292, 1, none⟩) (Kd.R_far (p := ⟨gb292, 0, none⟩) (Kd.R_types HO272.out BK292.out (by decide)) (fun _ hk => hk.2) (.slice Ao35 t285.length co35)) (fun _ hk => hk.2) (.slice Ao40 t288.length co40)) (fun _ h_ => h_.1))) hb); have n3_ := Aside0.mk (Kd.R_below (by (with_reducible repeat (first | apply Kd.R_alloc)); exact (Kd.R_mono (Kd.R_far (p := ⟨gb292, 1, none⟩) (Kd.R_far (p := ⟨gb292, 0, none⟩) (Kd.R_types HO275.out BK292.out (by decide)) (fun _ hk => hk.2) (.slice Ao35 t285.length co35)) (fun _ hk => hk.2) (.slice Ao40 t288.length co40)) (fun _ h_ => h_.1))) hb); have n4_ := Aside0.mk (Kd.R_below (by (with_reducible repeat (first | apply Kd.R_alloc)); exact (Kd.R_mono (Kd.R_far (p := ⟨gb292, 1, none⟩) (Kd.R_far (p := ⟨gb292, 0, none⟩) (Kd.R_types HO280.out BK292.out (by decide)) (fun _ hk => hk.2) (.slice Ao35 t285.length co35)) (fun _ hk => hk.2) (.slice Ao40 t288.length co40)) (fun _ h_ => h_.1))) hb); have n5_ := Aside0.mk (Kd.R_below (by (with_reducible repeat (first | apply Kd.R_alloc)); exact (Kd.R_mono (Kd.R_far (p := ⟨gb292, 1, none⟩) (Kd.R_far (p := ⟨gb292, 0, none⟩) (Kd.R_types HO283.out BK292.out (by decide)) (fun _ hk => hk.2) (.slice Ao35 t285.length co35)) (fun _ hk => hk.2) (.slice Ao40 t288.length co40)) (fun _ h_ => h_.1))) hb); have n6_ := Aside0.mk (Kd.R_below (by (with_reducible repeat (first | apply Kd.R_alloc)); exact (Kd.R_mono (Kd.R_far (p := ⟨gb292, 1, none⟩) (Kd.R_far (p := ⟨gb292, 0, none⟩) (Kd.R_types HO287.out BK292.out (by decide)) (fun _ hk => hk.2) (.slice Ao35 t285.length co35)) (fun _ hk => hk.2) (.slice Ao40 t288.length co40)) (fun _ h_ => h_.1))) hb); have n7_ := Aside0.mk (Kd.R_below (by (with_reducible repeat (first | apply Kd.R_alloc)); exact (Kd.R_mono (Kd.R_far (p := ⟨gb292, 1, none⟩) (Kd.R_far (p := ⟨gb292, 0, none⟩) (Kd.R_types HO290.out BK292.out (by decide)) (fun _ hk => hk.2) (.slice Ao35 t285.length co35)) (fun _ hk => hk.2) (.slice Ao40 t288.length co40)) (fun _ h_ => h_.1))) hb); have n8_ := Aside0.mk (blk_below (g := gb262) (o := .cells #[.slice A0_0 l0_0.length c0_0, .slice A0_1 l0_1.length c0_1] 30 (0, 0)) (by (with_reducible repeat (refine blk_alloc ?_ _)); refine blk_far ?_ NB262_292.out _; (with_reducible repeat (refine blk_alloc ?_ _)); refine blk_far ?_ NB262_292.out _; (with_reducible repeat (refine blk_alloc ?_ _)); exact BK262.out) hb); have n9_ := Aside0.mk (blk_below (g := gb277) (o := .cells #[.slice Ao21 t270.length co21, .slice Ao24 t273.length co24] 34 (0, 0)) (by (with_reducible repeat (refine blk_alloc ?_ _)); refine blk_far ?_ NB277_292.out _; (with_reducible repeat (refine blk_alloc ?_ _)); refine blk_far ?_ NB277_292.out _; (with_reducible repeat (refine blk_alloc ?_ _)); exact BK277.out) hb); have n10_ := Aside0.mk (blk_below (g := gb284) (o := .cells #[.slice Ao28 t278.length co28, .slice Ao32 t281.length co32] 34 (0, 0)) (by (with_reducible repeat (refine blk_alloc ?_ _)); refine blk_far ?_ NB284_292.out _; (with_reducible repeat (refine blk_alloc ?_ _)); refine blk_far ?_ NB284_292.out _; (with_reducible repeat (refine blk_alloc ?_ _)); exact BK284.out) hb); have n11_ := Aside0.mk (blk_below (g := gb292) (o := .cells #[.slice Ao35 t285.length co35, .slice Ao40 t288.length co40] 34 (0, 0)) (by (with_reducible repeat (refine blk_alloc ?_ _)); refine blk_put (cs := #[.slice Ao35 t285.length co35, .slice none 0 0]) ?_ 1 _ rfl; (with_reducible repeat (refine blk_alloc ?_ _)); refine blk_put (cs := #[.slice none 0 0, .slice none 0 0]) ?_ 0 _ rfl; (with_reducible repeat (refine blk_alloc ?_ _)); exact BK292.out) hb); have n12_ := Aside0.mk (below_step (by repeat (first | (with_reducible first | exact HB.out | apply below_alloc | refine below_set ?_ GE262.out | refine below_set ?_ GE277.out | refine below_set ?_ GE284.out | refine below_set ?_ GE292.out) | exact HB.out)) hb); clear HO266; clear HO269; clear HO272; clear HO275; clear HO280; clear HO283; clear HO287; clear HO290; clear BK262; clear BK277; clear BK284; clear BK292; clear HB; have HO266 := n0_; have HO269 := n1_; have HO272 := n2_; have HO275 := n3_; have HO280 := n4_; have HO283 := n5_; have HO287 := n6_; have HO290 := n7_; have BK262 := n8_; have BK277 := n9_; have BK284 := n10_; have BK292 := n11_; have HB := n12_; clear n0_ n1_ n2_ n3_ n4_ n5_ n6_ n7_ n8_ n9_ n10_ n11_ n12_; (try clear hb); (try clear hb2); (try clear hk); (try clear hi)))
        go_meet
        case rel => exact ⟨_, (true), (by first | rfl | (simp; done) | (simp [*]; done)), H', ⟨by first | omega | exact Nat.le_refl _⟩, ⟨by (with_reducible repeat (first | apply Kd.R_alloc)); exact Kd.R_mono HO272.out (fun _ hk => ⟨hk.1.1.1.1.1.1, ⟨hk.1.1.1.2, ⟨hk.1.1.2, ⟨hk.1.2, hk.2⟩⟩⟩⟩)⟩, ⟨by (with_reducible repeat (first | apply Kd.R_alloc)); exact Kd.R_mono HO275.out (fun _ hk => ⟨hk.1.1.1.1.1.1, ⟨hk.1.1.1.2, ⟨hk.1.1.2, ⟨hk.1.2, hk.2⟩⟩⟩⟩)⟩, ⟨by (with_reducible repeat (first | apply Kd.R_alloc)); exact Kd.R_mono HO280.out (fun _ hk => ⟨hk.1.1.1.2, ⟨hk.1.1.2, ⟨hk.1.1.1.1.1.1, ⟨hk.1.2, hk.2⟩⟩⟩⟩)⟩, ⟨by (with_reducible repeat (first | apply Kd.R_alloc)); exact Kd.R_mono HO283.out (fun _ hk => ⟨hk.1.1.1.2, ⟨hk.1.1.2, ⟨hk.1.1.1.1.1.1, ⟨hk.1.2, hk.2⟩⟩⟩⟩)⟩, ⟨by (with_reducible repeat (first | apply Kd.R_alloc)); exact Kd.R_mono HO287.out (fun _ hk => ⟨hk.1.1.1.2, ⟨hk.1.1.2, ⟨hk.1.2, ⟨hk.2, hk.1.1.1.1.1.1⟩⟩⟩⟩)⟩, ⟨by (with_reducible repeat (first | apply Kd.R_alloc)); exact Kd.R_mono HO290.out (fun _ hk => ⟨hk.1.1.1.2, ⟨hk.1.1.2, ⟨hk.1.2, ⟨hk.2, hk.1.1.1.1.1.1⟩⟩⟩⟩)⟩, ⟨by (with_reducible repeat (refine blk_alloc ?_ _)); exact BK262.out⟩, ⟨by (with_reducible repeat (refine blk_alloc ?_ _)); exact BK277.out⟩, ⟨by (with_reducible repeat (refine blk_alloc ?_ _)); exact BK284.out⟩, ⟨by (with_reducible repeat (refine blk_alloc ?_ _)); exact BK292.out⟩, ⟨by repeat (first | (with_reducible first | exact HB.out | apply below_alloc | refine below_set ?_ GE262.out | refine below_set ?_ GE277.out | refine below_set ?_ GE284.out | refine below_set ?_ GE292.out) | exact HB.out)⟩⟩
    case rest =>
      clear HC11
      try clear c1
      try clear c2
      try clear p2
      try clear c3
      try clear c3b0
      try clear c4
      try clear c5
      try clear c6
      try clear c13
      try clear c15
      try clear c18
      try clear c22
      try clear c23
      try clear c29
      try clear c30
      try clear c36
      try clear c37
      try clear c38
      try clear c42
      try clear c43
      try clear c44
      try clear c45
      try clear c47
      try clear c48
      try clear c51
      try clear c52
      try clear c53
      try clear c55
      try clear c56
      try clear hcz13_0
      try clear hcz13_1
      try clear hcz15_0
      try clear hcz15_1
      try clear hcz23_0
      try clear hcz23_1
      try clear hcz25_0
      try clear hcz25_1
      try clear hcz31_0
      try clear hcz31_1
      try clear hcz39_0
      try clear hcz39_1
      try clear hcz46_0
      try clear hcz46_1
      try clear hcz49_0
      try clear hcz49_1
      try clear hcz54_0
      try clear hcz54_1
      try clear hcz57_0
      try clear hcz57_1
      try clear hcz5_0
      try clear hcz5_1
      try clear hfz13_0
      try clear hfz13_1
      try clear hfz15_0
      try clear hfz15_1
      try clear hfz23_0
      try clear hfz23_1
      try clear hfz25_0
      try clear hfz25_1
      try clear hfz31_0
      try clear hfz31_1
      try clear hfz39_0
      try clear hfz39_1
      try clear hfz46_0
      try clear hfz46_1
      try clear hfz49_0
      try clear hfz49_1
      try clear hfz54_0
      try clear hfz54_1
      try clear hfz57_0
      try clear hfz57_1
      try clear hfz5_0
      try clear hfz5_1
      obtain ⟨kq, x40_10, rfl, HA, HJ10, HO_278000, HO_278001, HO_285000, HO_285001, HO_293000, HO_293001, BK262, BK277, BK284, BK292, HB⟩ := hcut
      cases kq with
      | zero => exact absurd HA.out (by simp [laws_FnExactMendDisk.j0])
      | succ kj10 =>
        have H := HA.out
        clear HA
        simp only [laws_FnExactMendDisk.j0] at H
        by_cases c59 : x40_10 = true
        · subst c59
          have H1 : (some false) = some r := by rw [if_pos rfl] at H; exact H
          clear H
          have H := H1
          clear H1
          obtain rfl := Option.some.inj H
          go_wp2
          go_ret
          exact ⟨by first | rfl | (simp [errW_none, errW_some] <;> rfl) | (simp [*, errW_none, errW_some] <;> rfl), by repeat (first | (with_reducible first | exact HB.out | apply below_alloc | refine below_set ?_ GE262.out | refine below_set ?_ GE277.out | refine below_set ?_ GE284.out | refine below_set ?_ GE292.out) | exact HB.out)⟩
        · replace c59 := Bool.eq_false_iff.mpr c59
          subst c59
          have H1 : ((laws_toDisk.f kj10 l0_0 l0_1).bind fun bt294 => ((laws_eqDisk.f kj10 t278 t281 bt294.1 bt294.2).bind fun t300 => (if t300 = true then ((laws_markDisk.f kj10 t278 t281 1).bind fun bt301 => (if bt301.1 < 0 then (laws_FnExactMendDisk.j1 kj10 t276 true l0_0 l0_1 t270 t273 t285 t288) else ((laws_eqDisk.f kj10 t285 t288 t270 t273).bind fun t304 => (if t304 = true then (laws_FnExactMendDisk.j1 kj10 t276 (t291 != t276) l0_0 l0_1 t270 t273 t285 t288) else (laws_FnExactMendDisk.j1 kj10 t276 true l0_0 l0_1 t270 t273 t285 t288))))) else (some false)))) = some r := by rw [if_neg (show ¬ (false = true) by decide)] at H; exact H
          clear H
          have H := H1
          clear H1
          replace H := Option.bind_eq_some_iff.mp H
          obtain ⟨⟨t294, t297⟩, A600, H⟩ := H
          replace H : ((laws_eqDisk.f kj10 t278 t281 t294 t297).bind fun t300 => (if t300 = true then ((laws_markDisk.f kj10 t278 t281 1).bind fun bt301 => (if bt301.1 < 0 then (laws_FnExactMendDisk.j1 kj10 t276 true l0_0 l0_1 t270 t273 t285 t288) else ((laws_eqDisk.f kj10 t285 t288 t270 t273).bind fun t304 => (if t304 = true then (laws_FnExactMendDisk.j1 kj10 t276 (t291 != t276) l0_0 l0_1 t270 t273 t285 t288) else (laws_FnExactMendDisk.j1 kj10 t276 true l0_0 l0_1 t270 t273 t285 t288))))) else (some false))) = some r := H
          have A60 := Aside0.mk A600
          clear A600
          replace H := Option.bind_eq_some_iff.mp H
          obtain ⟨t300, A610, H⟩ := H
          replace H : (if t300 = true then ((laws_markDisk.f kj10 t278 t281 1).bind fun bt301 => (if bt301.1 < 0 then (laws_FnExactMendDisk.j1 kj10 t276 true l0_0 l0_1 t270 t273 t285 t288) else ((laws_eqDisk.f kj10 t285 t288 t270 t273).bind fun t304 => (if t304 = true then (laws_FnExactMendDisk.j1 kj10 t276 (t291 != t276) l0_0 l0_1 t270 t273 t285 t288) else (laws_FnExactMendDisk.j1 kj10 t276 true l0_0 l0_1 t270 t273 t285 t288))))) else (some false)) = some r := H
          have A61 := Aside0.mk A610
          clear A610
          by_cases c62 : t300 = true
          · subst c62
            have H1 : ((laws_markDisk.f kj10 t278 t281 1).bind fun bt301 => (if bt301.1 < 0 then (laws_FnExactMendDisk.j1 kj10 t276 true l0_0 l0_1 t270 t273 t285 t288) else ((laws_eqDisk.f kj10 t285 t288 t270 t273).bind fun t304 => (if t304 = true then (laws_FnExactMendDisk.j1 kj10 t276 (t291 != t276) l0_0 l0_1 t270 t273 t285 t288) else (laws_FnExactMendDisk.j1 kj10 t276 true l0_0 l0_1 t270 t273 t285 t288))))) = some r := by rw [if_pos rfl] at H; exact H
            clear H
            have H := H1
            clear H1
            replace H := Option.bind_eq_some_iff.mp H
            obtain ⟨⟨t301, t302, t303⟩, A630, H⟩ := H
            replace H : (if t301 < 0 then (laws_FnExactMendDisk.j1 kj10 t276 true l0_0 l0_1 t270 t273 t285 t288) else ((laws_eqDisk.f kj10 t285 t288 t270 t273).bind fun t304 => (if t304 = true then (laws_FnExactMendDisk.j1 kj10 t276 (t291 != t276) l0_0 l0_1 t270 t273 t285 t288) else (laws_FnExactMendDisk.j1 kj10 t276 true l0_0 l0_1 t270 t273 t285 t288)))) = some r := H
            have A63 := Aside0.mk A630
            clear A630
            have HC64 := Aside0.mk H
            clear H
            try go_wp2
            have n0_ := Aside0.mk (Kd.R_drew HO_278000.out)
            have n1_ := Aside0.mk (Kd.R_drew HO_278001.out)
            have n2_ := Aside0.mk (Kd.R_drew HO_285000.out)
            have n3_ := Aside0.mk (Kd.R_drew HO_285001.out)
            have n4_ := Aside0.mk (Kd.R_drew HO_293000.out)
            have n5_ := Aside0.mk (Kd.R_drew HO_293001.out)
            have n6_ := Aside0.mk (blk_drew BK262.out)
            have n7_ := Aside0.mk (blk_drew BK277.out)
            have n8_ := Aside0.mk (blk_drew BK284.out)
            have n9_ := Aside0.mk (blk_drew BK292.out)
            have n10_ := Aside0.mk (below_drew1 HB.out)
            clear HO_278000
            clear HO_278001
            clear HO_285000
            clear HO_285001
            clear HO_293000
            clear HO_293001
            clear BK262
            clear BK277
            clear BK284
            clear BK292
            clear HB
            have HO_278000 := n0_
            have HO_278001 := n1_
            have HO_285000 := n2_
            have HO_285001 := n3_
            have HO_293000 := n4_
            have HO_293001 := n5_
            have BK262 := n6_
            have BK277 := n7_
            have BK284 := n8_
            have BK292 := n9_
            have HB := n10_
            clear n0_ n1_ n2_ n3_ n4_ n5_ n6_ n7_ n8_ n9_ n10_
            refine start_ (n := 5) (S := fun w' => w'.cell? ⟨gb284, 0, none⟩ = some (.slice Ao28 t278.length co28) ∧ w'.cell? ⟨gb284, 1, none⟩ = some (.slice Ao32 t281.length co32) ∧ w'.cell? ⟨gb262, 0, none⟩ = some (.slice A0_0 l0_0.length c0_0) ∧ w'.cell? ⟨gb262, 1, none⟩ = some (.slice A0_1 l0_1.length c0_1)) (ds := []) #[false, false, false, false, false] (by kernel_rfl) rfl rfl ⟨(blk_cell BK284.out 0).trans rfl, (blk_cell BK284.out 1).trans rfl, (blk_cell BK262.out 0).trans rfl, (blk_cell BK262.out 1).trans rfl⟩ (fun hHeld => ?_)
            generalize wc.drew = w65 at HO_278000 HO_278001 HO_285000 HO_285001 HO_293000 HO_293001 BK262 BK277 BK284 BK292 HB hHeld ⊢
            refine take_ (i := 0) (N := some 41) (v := ?_) (a' := ?_) #[true, false, false, false, false] rfl rfl (by kernel_rfl) (fun _ _ _ h => h) (Or.inl ⟨by rfl, ?_⟩) hHeld ?_ ?_
            rotate_left
            · rintro w' ⟨s0, s1, s2, s3⟩
              go_simp
              with_reducible rfl
            rotate_left
            · simp only [Act.put, List.setIfInBounds_toArray, List.set_cons_zero, List.set_cons_succ, i64_w, i32_w]
              rfl
            refine take_ (i := 1) (N := some 42) (v := ?_) (a' := ?_) #[true, true, false, false, false] rfl rfl (by kernel_rfl) (fun _ _ _ h => h) (Or.inl ⟨by rfl, ?_⟩) hHeld ?_ ?_
            rotate_left
            · rintro w' ⟨s0, s1, s2, s3⟩
              go_simp
              with_reducible rfl
            rotate_left
            · simp only [Act.put, List.setIfInBounds_toArray, List.set_cons_zero, List.set_cons_succ, i64_w, i32_w]
              rfl
            refine one_ (i := 2) (N := some 43) #[true, true, true, false, false] rfl rfl (by kernel_rfl) (by decide) (fun K hK => ?_)
            refine goes_ Try.func15 (by kernel_rfl) rfl #[.agg #[.slice A0_0 l0_0.length c0_0, .slice A0_1 l0_1.length c0_1]] (by rfl) rfl rfl (by (try simp only [List.map_toArray, List.map_cons, List.map_nil]); first | done | rfl | (simp only [List.length_drop, List.length_take]; rfl)) ?_
            with_reducible refine (laws_toDisk.calls kj10 _ _ l0_0 _ _ l0_1 t294 t297 _ ?side1 ?side2 ?side3 ?side4 A60.out).mono ?_
            (case side1 => repeat (first | exact (Kd.C_below HR0_0.out HB.out) | (with_reducible refine Kd.C_alloc ?_ _)))
            (case side2 => exact HC0_0.out)
            (case side3 => repeat (first | exact (Kd.C_below HR0_1.out HB.out) | (with_reducible refine Kd.C_alloc ?_ _)))
            (case side4 => exact HC0_1.out)
            rintro e w66 ⟨v295, v298, rfl, ho0, ho1, hb⟩
            refine ⟨_, rfl, ?_⟩
            have n0_ := Aside0.mk (Kd.R_mono (Kd.R_told (Kd.R_told (Kd.R_old (by (with_reducible repeat (first | apply Kd.R_alloc)); exact HO_278000.out) hb) (Kd.R_base ho0)) (Kd.R_base ho1)) (fun _ h_ => h_.1))
            have n1_ := Aside0.mk (Kd.R_mono (Kd.R_told (Kd.R_told (Kd.R_old (by (with_reducible repeat (first | apply Kd.R_alloc)); exact HO_278001.out) hb) (Kd.R_base ho0)) (Kd.R_base ho1)) (fun _ h_ => h_.1))
            have n2_ := Aside0.mk (Kd.R_mono (Kd.R_told (Kd.R_told (Kd.R_old (by (with_reducible repeat (first | apply Kd.R_alloc)); exact HO_285000.out) hb) (Kd.R_base ho0)) (Kd.R_base ho1)) (fun _ h_ => h_.1))
            have n3_ := Aside0.mk (Kd.R_mono (Kd.R_told (Kd.R_told (Kd.R_old (by (with_reducible repeat (first | apply Kd.R_alloc)); exact HO_285001.out) hb) (Kd.R_base ho0)) (Kd.R_base ho1)) (fun _ h_ => h_.1))
            have n4_ := Aside0.mk (Kd.R_mono (Kd.R_told (Kd.R_told (Kd.R_old (by (with_reducible repeat (first | apply Kd.R_alloc)); exact HO_293000.out) hb) (Kd.R_base ho0)) (Kd.R_base ho1)) (fun _ h_ => h_.1))
            have n5_ := Aside0.mk (Kd.R_mono (Kd.R_told (Kd.R_told (Kd.R_old (by (with_reducible repeat (first | apply Kd.R_alloc)); exact HO_293001.out) hb) (Kd.R_base ho0)) (Kd.R_base ho1)) (fun _ h_ => h_.1))
            have n6_ := Aside0.mk (Kd.R_lower (Kd.R_new' (Kd.R_new' (Kd.R_new' (Kd.R_new' (Kd.R_new' (Kd.R_new' ho0 (Kd.R_lt (by (with_reducible repeat (first | apply Kd.R_alloc)); exact HO_278000.out))) (Kd.R_lt (by (with_reducible repeat (first | apply Kd.R_alloc)); exact HO_278001.out))) (Kd.R_lt (by (with_reducible repeat (first | apply Kd.R_alloc)); exact HO_285000.out))) (Kd.R_lt (by (with_reducible repeat (first | apply Kd.R_alloc)); exact HO_285001.out))) (Kd.R_lt (by (with_reducible repeat (first | apply Kd.R_alloc)); exact HO_293000.out))) (Kd.R_lt (by (with_reducible repeat (first | apply Kd.R_alloc)); exact HO_293001.out))) (below_size (by repeat (first | (with_reducible first | exact HB.out | apply below_alloc | refine below_set ?_ GE262.out | refine below_set ?_ GE277.out | refine below_set ?_ GE284.out | refine below_set ?_ GE292.out) | exact HB.out))))
            have n7_ := Aside0.mk (Kd.R_lower (Kd.R_new' (Kd.R_new' (Kd.R_new' (Kd.R_new' (Kd.R_new' (Kd.R_new' ho1 (Kd.R_lt (by (with_reducible repeat (first | apply Kd.R_alloc)); exact HO_278000.out))) (Kd.R_lt (by (with_reducible repeat (first | apply Kd.R_alloc)); exact HO_278001.out))) (Kd.R_lt (by (with_reducible repeat (first | apply Kd.R_alloc)); exact HO_285000.out))) (Kd.R_lt (by (with_reducible repeat (first | apply Kd.R_alloc)); exact HO_285001.out))) (Kd.R_lt (by (with_reducible repeat (first | apply Kd.R_alloc)); exact HO_293000.out))) (Kd.R_lt (by (with_reducible repeat (first | apply Kd.R_alloc)); exact HO_293001.out))) (below_size (by repeat (first | (with_reducible first | exact HB.out | apply below_alloc | refine below_set ?_ GE262.out | refine below_set ?_ GE277.out | refine below_set ?_ GE284.out | refine below_set ?_ GE292.out) | exact HB.out))))
            have n8_ := Aside0.mk (blk_below (g := gb262) (o := .cells #[.slice A0_0 l0_0.length c0_0, .slice A0_1 l0_1.length c0_1] 30 (0, 0)) (by (with_reducible repeat (refine blk_alloc ?_ _)); exact BK262.out) hb)
            have n9_ := Aside0.mk (blk_below (g := gb277) (o := .cells #[.slice Ao21 t270.length co21, .slice Ao24 t273.length co24] 34 (0, 0)) (by (with_reducible repeat (refine blk_alloc ?_ _)); exact BK277.out) hb)
            have n10_ := Aside0.mk (blk_below (g := gb284) (o := .cells #[.slice Ao28 t278.length co28, .slice Ao32 t281.length co32] 34 (0, 0)) (by (with_reducible repeat (refine blk_alloc ?_ _)); exact BK284.out) hb)
            have n11_ := Aside0.mk (blk_below (g := gb292) (o := .cells #[.slice Ao35 t285.length co35, .slice Ao40 t288.length co40] 34 (0, 0)) (by (with_reducible repeat (refine blk_alloc ?_ _)); exact BK292.out) hb)
            have n12_ := Aside0.mk (below_step (by repeat (first | (with_reducible first | exact HB.out | apply below_alloc | refine below_set ?_ GE262.out | refine below_set ?_ GE277.out | refine below_set ?_ GE284.out | refine below_set ?_ GE292.out) | exact HB.out)) hb)
            clear HO_278000
            clear HO_278001
            clear HO_285000
            clear HO_285001
            clear HO_293000
            clear HO_293001
            clear BK262
            clear BK277
            clear BK284
            clear BK292
            clear HB
            have HO_278000 := n0_
            have HO_278001 := n1_
            have HO_285000 := n2_
            have HO_285001 := n3_
            have HO_293000 := n4_
            have HO_293001 := n5_
            have HO296 := n6_
            have HO299 := n7_
            have BK262 := n8_
            have BK277 := n9_
            have BK284 := n10_
            have BK292 := n11_
            have HB := n12_
            clear n0_ n1_ n2_ n3_ n4_ n5_ n6_ n7_ n8_ n9_ n10_ n11_ n12_
            (try clear hb)
            (try clear hb2)
            (try clear hk)
            (try clear hi)
            (try clear ho0)
            (try clear ho1)
            obtain ⟨Ao67, co67, eo67⟩ := Kd.R_slice HO296.out
            (first | subst eo67 | (injection eo67 with f1_ f2_ f3_; have f4_ := f1_.symm; have f5_ := f3_.symm; clear f1_ f2_ f3_; subst f4_; subst f5_))
            obtain ⟨Ao68, co68, eo68⟩ := Kd.R_slice HO299.out
            (first | subst eo68 | (injection eo68 with f1_ f2_ f3_; have f4_ := f1_.symm; have f5_ := f3_.symm; clear f1_ f2_ f3_; subst f4_; subst f5_))
            refine hK.out _ _ ⟨(blk_cell BK284.out 0).trans rfl, (blk_cell BK284.out 1).trans rfl, (blk_cell BK262.out 0).trans rfl, (blk_cell BK262.out 1).trans rfl⟩ (fun hHeld => ?_)
            clear hK K
            refine norm_ (a' := ?_) ?_ ?_
            rotate_left
            · show Act.put _ (some 43) _ = _
              simp only [Act.put, List.setIfInBounds_toArray, List.set_cons_zero, List.set_cons_succ, i64_w, i32_w]
              rfl
            refine one_ (i := 3) (N := some 44) #[true, true, true, true, false] rfl rfl (by kernel_rfl) (by decide) (fun K hK => ?_)
            refine goes_ Try.func18 (by kernel_rfl) rfl #[.agg #[.slice Ao28 t278.length co28, .slice Ao32 t281.length co32], .agg #[.slice Ao67 t294.length co67, .slice Ao68 t297.length co68]] (by rfl) rfl rfl (by (try simp only [List.map_toArray, List.map_cons, List.map_nil]); first | done | rfl | (simp only [List.length_drop, List.length_take]; rfl)) ?_
            with_reducible refine (laws_eqDisk.calls kj10 _ _ t278 _ _ t281 _ _ t294 _ _ t297 true _ ?side1 ?side2 ?side3 ?side4 ?side5 ?side6 ?side7 ?side8 A61.out).mono ?_
            (case side1 => repeat (first | exact (Kd.R_reads' HO_285000.out).2.2 | (with_reducible refine Kd.C_alloc ?_ _)))
            (case side2 => exact (Kd.R_reads' HO_285000.out).2.1)
            (case side3 => repeat (first | exact (Kd.R_reads' HO_285001.out).2.2 | (with_reducible refine Kd.C_alloc ?_ _)))
            (case side4 => exact (Kd.R_reads' HO_285001.out).2.1)
            (case side5 => repeat (first | exact (Kd.R_reads' HO296.out).2.2 | (with_reducible refine Kd.C_alloc ?_ _)))
            (case side6 => exact (Kd.R_reads' HO296.out).2.1)
            (case side7 => repeat (first | exact (Kd.R_reads' HO299.out).2.2 | (with_reducible refine Kd.C_alloc ?_ _)))
            (case side8 => exact (Kd.R_reads' HO299.out).2.1)
            rintro e w69 ⟨rfl, hb⟩
            refine ⟨_, rfl, ?_⟩
            have n0_ := Aside0.mk (Kd.R_below (by (with_reducible repeat (first | apply Kd.R_alloc)); exact HO_278000.out) hb)
            have n1_ := Aside0.mk (Kd.R_below (by (with_reducible repeat (first | apply Kd.R_alloc)); exact HO_278001.out) hb)
            have n2_ := Aside0.mk (Kd.R_below (by (with_reducible repeat (first | apply Kd.R_alloc)); exact HO_285000.out) hb)
            have n3_ := Aside0.mk (Kd.R_below (by (with_reducible repeat (first | apply Kd.R_alloc)); exact HO_285001.out) hb)
            have n4_ := Aside0.mk (Kd.R_below (by (with_reducible repeat (first | apply Kd.R_alloc)); exact HO_293000.out) hb)
            have n5_ := Aside0.mk (Kd.R_below (by (with_reducible repeat (first | apply Kd.R_alloc)); exact HO_293001.out) hb)
            have n6_ := Aside0.mk (Kd.R_below (by (with_reducible repeat (first | apply Kd.R_alloc)); exact HO296.out) hb)
            have n7_ := Aside0.mk (Kd.R_below (by (with_reducible repeat (first | apply Kd.R_alloc)); exact HO299.out) hb)
            have n8_ := Aside0.mk (blk_below (g := gb262) (o := .cells #[.slice A0_0 l0_0.length c0_0, .slice A0_1 l0_1.length c0_1] 30 (0, 0)) (by (with_reducible repeat (refine blk_alloc ?_ _)); exact BK262.out) hb)
            have n9_ := Aside0.mk (blk_below (g := gb277) (o := .cells #[.slice Ao21 t270.length co21, .slice Ao24 t273.length co24] 34 (0, 0)) (by (with_reducible repeat (refine blk_alloc ?_ _)); exact BK277.out) hb)
            have n10_ := Aside0.mk (blk_below (g := gb284) (o := .cells #[.slice Ao28 t278.length co28, .slice Ao32 t281.length co32] 34 (0, 0)) (by (with_reducible repeat (refine blk_alloc ?_ _)); exact BK284.out) hb)
            have n11_ := Aside0.mk (blk_below (g := gb292) (o := .cells #[.slice Ao35 t285.length co35, .slice Ao40 t288.length co40] 34 (0, 0)) (by (with_reducible repeat (refine blk_alloc ?_ _)); exact BK292.out) hb)
            have n12_ := Aside0.mk (below_step (by repeat (first | (with_reducible first | exact HB.out | apply below_alloc | refine below_set ?_ GE262.out | refine below_set ?_ GE277.out | refine below_set ?_ GE284.out | refine below_set ?_ GE292.out) | exact HB.out)) hb)
            clear HO_278000
            clear HO_278001
            clear HO_285000
            clear HO_285001
            clear HO_293000
            clear HO_293001
            clear HO296
            clear HO299
            clear BK262
            clear BK277
            clear BK284
            clear BK292
            clear HB
            have HO_278000 := n0_
            have HO_278001 := n1_
            have HO_285000 := n2_
            have HO_285001 := n3_
            have HO_293000 := n4_
            have HO_293001 := n5_
            have HO296 := n6_
            have HO299 := n7_
            have BK262 := n8_
            have BK277 := n9_
            have BK284 := n10_
            have BK292 := n11_
            have HB := n12_
            clear n0_ n1_ n2_ n3_ n4_ n5_ n6_ n7_ n8_ n9_ n10_ n11_ n12_
            (try clear hb)
            (try clear hb2)
            (try clear hk)
            (try clear hi)
            refine hK.out _ _ ⟨(blk_cell BK284.out 0).trans rfl, (blk_cell BK284.out 1).trans rfl, (blk_cell BK262.out 0).trans rfl, (blk_cell BK262.out 1).trans rfl⟩ (fun hHeld => ?_)
            clear hK K
            refine norm_ (a' := ?_) ?_ ?_
            rotate_left
            · show Act.put _ (some 44) _ = _
              simp only [Act.put, List.setIfInBounds_toArray, List.set_cons_zero, List.set_cons_succ, i64_w, i32_w]
              rfl
            refine pure_ (i := 4) (N := some 45) (v := ?_) (a' := ?_) #[true, true, true, true, true] rfl rfl (by kernel_rfl) (fun _ _ _ h => h) (Or.inl ⟨by rfl, ?_⟩) ?_ ?_
            rotate_left
            · intro w'
              go_simp
              with_reducible rfl
            rotate_left
            · simp only [Act.put, List.setIfInBounds_toArray, List.set_cons_zero, List.set_cons_succ, i64_w, i32_w]
              rfl
            refine done_ (by kernel_rfl) ?_
            have hnb70 := NB284_262.out
            have hnc70 := NB262_284.out
            have hnb71 := NB284_277.out
            have hnc71 := NB277_284.out
            have hnb72 := NB284_292.out
            have hnc72 := NB292_284.out
            have hcz73_0 : w69.cell? ⟨gb284, 0, none⟩ = some (.slice Ao28 t278.length co28) := (blk_cell BK284.out 0).trans rfl
            have hcz73_1 : w69.cell? ⟨gb284, 1, none⟩ = some (.slice Ao32 t281.length co32) := (blk_cell BK284.out 1).trans rfl
            have hfz73_0 := blk_frozen BK284.out 0
            have hfz73_1 := blk_frozen BK284.out 1
            go_upto_region 14 with (first | ((with_reducible refine gate_callee (f := 19) rfl ?_); refine goesL_ (some 48) rfl rfl Try.func19 (by kernel_rfl) rfl #[.agg #[.slice Ao28 t278.length co28, .slice Ao32 t281.length co32], .int .i64 1] rfl (by (try simp only [List.map_toArray, List.map_cons, List.map_nil]); first | done | rfl | (simp only [List.length_drop, List.length_take]; rfl)) ?_; (with_reducible refine (laws_markDisk.calls kj10 (fun k_ => some k_ = (.slice Ao28 t278.length co28 : Value).ownBlock) (.slice Ao28 t278.length co28) t278 (fun k_ => some k_ = (.slice Ao32 t281.length co32 : Value).ownBlock) (.slice Ao32 t281.length co32) t281 1 t301 t302 t303 w _ ?side1 ?side2 ?side3 ?side4 ?side5 A63.out).mono ?_); (case side1 => repeat (first | (with_reducible first | exact HB.out | apply below_alloc | refine below_set ?_ GE262.out | refine below_set ?_ GE277.out | refine below_set ?_ GE284.out | refine below_set ?_ GE292.out) | exact HB.out)); (case side2 => exact Kd.R_tight rfl HO_285000.out); (case side3 => exact fun k_ e_ => (HO_285000.out.1 k_ e_.symm).1.1.2.2.1); (case side4 => exact Kd.R_tight rfl HO_285001.out); (case side5 => exact fun k_ e_ => (HO_285001.out.1 k_ e_.symm).1.1.2.2.1); rintro e w74 ⟨rfl, hy0, hy1, hb, hkp⟩; refine ⟨_, rfl, ?_⟩; have n0_ := Aside0.mk (Kd.R_mono (ok' := fun k_ => some k_ ≠ (.slice Ao24 t273.length co24 : Value).ownBlock ∧ some k_ ≠ (.slice Ao28 t278.length co28 : Value).ownBlock ∧ some k_ ≠ (.slice Ao32 t281.length co32 : Value).ownBlock ∧ some k_ ≠ (.slice Ao35 t285.length co35 : Value).ownBlock ∧ some k_ ≠ (.slice Ao40 t288.length co40 : Value).ownBlock ∧ some k_ ≠ (.slice Ao67 t294.length co67 : Value).ownBlock ∧ some k_ ≠ (.slice Ao68 t297.length co68 : Value).ownBlock) (Kd.R_keptB (HO_278000.out) hkp (fun k_ hk_ hs_ => Or.elim hs_ (fun e_ => (hk_.1.1.2.1) e_) (fun e_ => (hk_.1.1.2.2.1) e_))) (fun k_ hk_ => ⟨hk_.1.1.1.1, hk_.1.1.1.2.1, hk_.1.1.1.2.2.1, hk_.1.1.1.2.2.2.1, hk_.1.1.1.2.2.2.2, hk_.1.1.2, hk_.1.2⟩)); have n1_ := Aside0.mk (Kd.R_mono (ok' := fun k_ => some k_ ≠ (.slice Ao21 t270.length co21 : Value).ownBlock ∧ some k_ ≠ (.slice Ao28 t278.length co28 : Value).ownBlock ∧ some k_ ≠ (.slice Ao32 t281.length co32 : Value).ownBlock ∧ some k_ ≠ (.slice Ao35 t285.length co35 : Value).ownBlock ∧ some k_ ≠ (.slice Ao40 t288.length co40 : Value).ownBlock ∧ some k_ ≠ (.slice Ao67 t294.length co67 : Value).ownBlock ∧ some k_ ≠ (.slice Ao68 t297.length co68 : Value).ownBlock) (Kd.R_keptB (HO_278001.out) hkp (fun k_ hk_ hs_ => Or.elim hs_ (fun e_ => (hk_.1.1.2.1) e_) (fun e_ => (hk_.1.1.2.2.1) e_))) (fun k_ hk_ => ⟨hk_.1.1.1.1, hk_.1.1.1.2.1, hk_.1.1.1.2.2.1, hk_.1.1.1.2.2.2.1, hk_.1.1.1.2.2.2.2, hk_.1.1.2, hk_.1.2⟩)); have n2_ := Aside0.mk (Kd.R_reok rfl hy0 (fun k_ e_ => HO_285000.out.1 k_ e_)); have n3_ := Aside0.mk (Kd.R_reok rfl hy1 (fun k_ e_ => HO_285001.out.1 k_ e_)); have n4_ := Aside0.mk (Kd.R_mono (ok' := fun k_ => some k_ ≠ (.slice Ao21 t270.length co21 : Value).ownBlock ∧ some k_ ≠ (.slice Ao24 t273.length co24 : Value).ownBlock ∧ some k_ ≠ (.slice Ao28 t278.length co28 : Value).ownBlock ∧ some k_ ≠ (.slice Ao32 t281.length co32 : Value).ownBlock ∧ some k_ ≠ (.slice Ao40 t288.length co40 : Value).ownBlock ∧ some k_ ≠ (.slice Ao67 t294.length co67 : Value).ownBlock ∧ some k_ ≠ (.slice Ao68 t297.length co68 : Value).ownBlock) (Kd.R_keptB (HO_293000.out) hkp (fun k_ hk_ hs_ => Or.elim hs_ (fun e_ => (hk_.1.1.2.2.1) e_) (fun e_ => (hk_.1.1.2.2.2.1) e_))) (fun k_ hk_ => ⟨hk_.1.1.1.1, hk_.1.1.1.2.1, hk_.1.1.1.2.2.1, hk_.1.1.1.2.2.2.1, hk_.1.1.1.2.2.2.2, hk_.1.1.2, hk_.1.2⟩)); have n5_ := Aside0.mk (Kd.R_mono (ok' := fun k_ => some k_ ≠ (.slice Ao21 t270.length co21 : Value).ownBlock ∧ some k_ ≠ (.slice Ao24 t273.length co24 : Value).ownBlock ∧ some k_ ≠ (.slice Ao28 t278.length co28 : Value).ownBlock ∧ some k_ ≠ (.slice Ao32 t281.length co32 : Value).ownBlock ∧ some k_ ≠ (.slice Ao35 t285.length co35 : Value).ownBlock ∧ some k_ ≠ (.slice Ao67 t294.length co67 : Value).ownBlock ∧ some k_ ≠ (.slice Ao68 t297.length co68 : Value).ownBlock) (Kd.R_keptB (HO_293001.out) hkp (fun k_ hk_ hs_ => Or.elim hs_ (fun e_ => (hk_.1.1.2.2.1) e_) (fun e_ => (hk_.1.1.2.2.2.1) e_))) (fun k_ hk_ => ⟨hk_.1.1.1.1, hk_.1.1.1.2.1, hk_.1.1.1.2.2.1, hk_.1.1.1.2.2.2.1, hk_.1.1.1.2.2.2.2, hk_.1.1.2, hk_.1.2⟩)); have n6_ := Aside0.mk (blk_kept (by (with_reducible repeat (refine blk_alloc ?_ _)); exact BK262.out) hkp (fun hs_ => Or.elim hs_ (fun e_ => (fun e_ => (Kd.R_ne HO_285000.out BK262.out (by decide)) e_) e_) (fun e_ => (fun e_ => (Kd.R_ne HO_285001.out BK262.out (by decide)) e_) e_))); have n7_ := Aside0.mk (blk_kept (by (with_reducible repeat (refine blk_alloc ?_ _)); exact BK277.out) hkp (fun hs_ => Or.elim hs_ (fun e_ => (fun e_ => (Kd.R_ne HO_285000.out BK277.out (by decide)) e_) e_) (fun e_ => (fun e_ => (Kd.R_ne HO_285001.out BK277.out (by decide)) e_) e_))); have n8_ := Aside0.mk (blk_kept (by (with_reducible repeat (refine blk_alloc ?_ _)); exact BK284.out) hkp (fun hs_ => Or.elim hs_ (fun e_ => (fun e_ => (Kd.R_ne HO_285000.out BK284.out (by decide)) e_) e_) (fun e_ => (fun e_ => (Kd.R_ne HO_285001.out BK284.out (by decide)) e_) e_))); have n9_ := Aside0.mk (blk_kept (by (with_reducible repeat (refine blk_alloc ?_ _)); exact BK292.out) hkp (fun hs_ => Or.elim hs_ (fun e_ => (fun e_ => (Kd.R_ne HO_285000.out BK292.out (by decide)) e_) e_) (fun e_ => (fun e_ => (Kd.R_ne HO_285001.out BK292.out (by decide)) e_) e_))); have n10_ := Aside0.mk (Kd.R_mono (ok' := fun k_ => some k_ ≠ (.slice Ao21 t270.length co21 : Value).ownBlock ∧ some k_ ≠ (.slice Ao24 t273.length co24 : Value).ownBlock ∧ some k_ ≠ (.slice Ao28 t278.length co28 : Value).ownBlock ∧ some k_ ≠ (.slice Ao32 t281.length co32 : Value).ownBlock ∧ some k_ ≠ (.slice Ao35 t285.length co35 : Value).ownBlock ∧ some k_ ≠ (.slice Ao40 t288.length co40 : Value).ownBlock ∧ some k_ ≠ (.slice Ao68 t297.length co68 : Value).ownBlock) (Kd.R_keptB (HO296.out) hkp (fun k_ hk_ hs_ => Or.elim hs_ (fun e_ => (hk_.1.1.1.2) e_) (fun e_ => (hk_.1.1.2) e_))) (fun k_ hk_ => ⟨hk_.1.1.1.1.1.1.2, hk_.1.1.1.1.1.2, hk_.1.1.1.1.2, hk_.1.1.1.2, hk_.1.1.2, hk_.1.2, hk_.1.1.1.1.1.1.1⟩)); have n11_ := Aside0.mk (Kd.R_mono (ok' := fun k_ => some k_ ≠ (.slice Ao21 t270.length co21 : Value).ownBlock ∧ some k_ ≠ (.slice Ao24 t273.length co24 : Value).ownBlock ∧ some k_ ≠ (.slice Ao28 t278.length co28 : Value).ownBlock ∧ some k_ ≠ (.slice Ao32 t281.length co32 : Value).ownBlock ∧ some k_ ≠ (.slice Ao35 t285.length co35 : Value).ownBlock ∧ some k_ ≠ (.slice Ao40 t288.length co40 : Value).ownBlock ∧ some k_ ≠ (.slice Ao67 t294.length co67 : Value).ownBlock) (Kd.R_keptB (HO299.out) hkp (fun k_ hk_ hs_ => Or.elim hs_ (fun e_ => (hk_.1.1.1.2) e_) (fun e_ => (hk_.1.1.2) e_))) (fun k_ hk_ => ⟨hk_.1.1.1.1.1.1.2, hk_.1.1.1.1.1.2, hk_.1.1.1.1.2, hk_.1.1.1.2, hk_.1.1.2, hk_.1.2, hk_.1.1.1.1.1.1.1⟩)); have n12_ := Aside0.mk (hb); clear HO_278000; clear HO_278001; clear HO_285000; clear HO_285001; clear HO_293000; clear HO_293001; clear BK262; clear BK277; clear BK284; clear BK292; clear HO296; clear HO299; clear HB; have HO_278000 := n0_; have HO_278001 := n1_; have HO_285000 := n2_; have HO_285001 := n3_; have HO_293000 := n4_; have HO_293001 := n5_; have BK262 := n6_; have BK277 := n7_; have BK284 := n8_; have BK292 := n9_; have HO296 := n10_; have HO299 := n11_; have HB := n12_; clear n0_ n1_ n2_ n3_ n4_ n5_ n6_ n7_ n8_ n9_ n10_ n11_ n12_; (try clear hb); (try clear hkp); (try clear hy0); (try clear hy1)))
            (try simp only [Act.put, List.setIfInBounds_toArray, List.set_cons_zero, List.set_cons_succ])
            go_cut [61] (fun v61 wc => ∃ (kq : Nat) (x61_63 : Bool), v61 = .bool x61_63 ∧ Aside0 (laws_FnExactMendDisk.j1 kq t276 x61_63 l0_0 l0_1 t270 t273 t285 t288 = some r) ∧ Aside0 (kq ≤ kj10) ∧ Aside0 (Kd.R Kd.string 9 wc w.heap.size (fun k_ => some k_ ≠ ((.slice Ao24 t273.length co24) : Value).ownBlock ∧ some k_ ≠ ((.slice Ao28 t278.length co28) : Value).ownBlock ∧ some k_ ≠ ((.slice Ao32 t281.length co32) : Value).ownBlock ∧ some k_ ≠ ((.slice Ao35 t285.length co35) : Value).ownBlock ∧ some k_ ≠ ((.slice Ao40 t288.length co40) : Value).ownBlock) (.slice Ao21 t270.length co21) t270) ∧ Aside0 (Kd.R Kd.string 9 wc w.heap.size (fun k_ => some k_ ≠ ((.slice Ao21 t270.length co21) : Value).ownBlock ∧ some k_ ≠ ((.slice Ao28 t278.length co28) : Value).ownBlock ∧ some k_ ≠ ((.slice Ao32 t281.length co32) : Value).ownBlock ∧ some k_ ≠ ((.slice Ao35 t285.length co35) : Value).ownBlock ∧ some k_ ≠ ((.slice Ao40 t288.length co40) : Value).ownBlock) (.slice Ao24 t273.length co24) t273) ∧ Aside0 (Kd.R Kd.string 9 wc w.heap.size (fun k_ => some k_ ≠ ((.slice Ao21 t270.length co21) : Value).ownBlock ∧ some k_ ≠ ((.slice Ao24 t273.length co24) : Value).ownBlock ∧ some k_ ≠ ((.slice Ao32 t281.length co32) : Value).ownBlock ∧ some k_ ≠ ((.slice Ao35 t285.length co35) : Value).ownBlock ∧ some k_ ≠ ((.slice Ao40 t288.length co40) : Value).ownBlock) (.slice Ao28 t278.length co28) t302) ∧ Aside0 (Kd.R Kd.string 9 wc w.heap.size (fun k_ => some k_ ≠ ((.slice Ao21 t270.length co21) : Value).ownBlock ∧ some k_ ≠ ((.slice Ao24 t273.length co24) : Value).ownBlock ∧ some k_ ≠ ((.slice Ao28 t278.length co28) : Value).ownBlock ∧ some k_ ≠ ((.slice Ao35 t285.length co35) : Value).ownBlock ∧ some k_ ≠ ((.slice Ao40 t288.length co40) : Value).ownBlock) (.slice Ao32 t281.length co32) t303) ∧ Aside0 (Kd.R Kd.string 9 wc w.heap.size (fun k_ => some k_ ≠ ((.slice Ao21 t270.length co21) : Value).ownBlock ∧ some k_ ≠ ((.slice Ao24 t273.length co24) : Value).ownBlock ∧ some k_ ≠ ((.slice Ao28 t278.length co28) : Value).ownBlock ∧ some k_ ≠ ((.slice Ao32 t281.length co32) : Value).ownBlock ∧ some k_ ≠ ((.slice Ao40 t288.length co40) : Value).ownBlock) (.slice Ao35 t285.length co35) t285) ∧ Aside0 (Kd.R Kd.string 9 wc w.heap.size (fun k_ => some k_ ≠ ((.slice Ao21 t270.length co21) : Value).ownBlock ∧ some k_ ≠ ((.slice Ao24 t273.length co24) : Value).ownBlock ∧ some k_ ≠ ((.slice Ao28 t278.length co28) : Value).ownBlock ∧ some k_ ≠ ((.slice Ao32 t281.length co32) : Value).ownBlock ∧ some k_ ≠ ((.slice Ao35 t285.length co35) : Value).ownBlock) (.slice Ao40 t288.length co40) t288) ∧ Aside0 (wc.heap[gb262]? = some (.cells #[(.slice A0_0 l0_0.length c0_0), (.slice A0_1 l0_1.length c0_1)] 30 (0, 0))) ∧ Aside0 (wc.heap[gb277]? = some (.cells #[(.slice Ao21 t270.length co21), (.slice Ao24 t273.length co24)] 34 (0, 0))) ∧ Aside0 (wc.heap[gb284]? = some (.cells #[(.slice Ao28 t278.length co28), (.slice Ao32 t281.length co32)] 34 (0, 0))) ∧ Aside0 (wc.heap[gb292]? = some (.cells #[(.slice Ao35 t285.length co35), (.slice Ao40 t288.length co40)] 34 (0, 0))) ∧ Aside0 (Below w.heap.size w wc))
            case first =>
              have H := HC64.out
              clear HC64
              by_cases c75 : t301 < 0
              · rw [if_pos c75] at H
                have c75b0 : decide (t301 < 0) = true := decide_eq_true c75
                clear c75
                (first | rw [c75b0] | (simp only [i64_w, i32_w]; rw [c75b0]) | skip)
                have H' := Aside0.mk H
                clear H
                go_wp2
                go_meet
                case rel => exact ⟨_, (true), (by first | rfl | (simp; done) | (simp [*]; done)), H', ⟨by have := HJ10.out; first | omega | exact Nat.le_refl _⟩, ⟨by (with_reducible repeat (first | apply Kd.R_alloc)); exact Kd.R_mono HO_278000.out (fun _ hk => ⟨hk.1, ⟨hk.2.1, ⟨hk.2.2.1, ⟨hk.2.2.2.1, hk.2.2.2.2.1⟩⟩⟩⟩)⟩, ⟨by (with_reducible repeat (first | apply Kd.R_alloc)); exact Kd.R_mono HO_278001.out (fun _ hk => ⟨hk.1, ⟨hk.2.1, ⟨hk.2.2.1, ⟨hk.2.2.2.1, hk.2.2.2.2.1⟩⟩⟩⟩)⟩, ⟨by (with_reducible repeat (first | apply Kd.R_alloc)); exact Kd.R_mono HO_285000.out (fun _ hk => ⟨hk.1.1.1, ⟨hk.1.1.2.1, ⟨hk.1.1.2.2.1, ⟨hk.1.1.2.2.2.1, hk.1.1.2.2.2.2⟩⟩⟩⟩)⟩, ⟨by (with_reducible repeat (first | apply Kd.R_alloc)); exact Kd.R_mono HO_285001.out (fun _ hk => ⟨hk.1.1.1, ⟨hk.1.1.2.1, ⟨hk.1.1.2.2.1, ⟨hk.1.1.2.2.2.1, hk.1.1.2.2.2.2⟩⟩⟩⟩)⟩, ⟨by (with_reducible repeat (first | apply Kd.R_alloc)); exact Kd.R_mono HO_293000.out (fun _ hk => ⟨hk.1, ⟨hk.2.1, ⟨hk.2.2.1, ⟨hk.2.2.2.1, hk.2.2.2.2.1⟩⟩⟩⟩)⟩, ⟨by (with_reducible repeat (first | apply Kd.R_alloc)); exact Kd.R_mono HO_293001.out (fun _ hk => ⟨hk.1, ⟨hk.2.1, ⟨hk.2.2.1, ⟨hk.2.2.2.1, hk.2.2.2.2.1⟩⟩⟩⟩)⟩, ⟨by (with_reducible repeat (refine blk_alloc ?_ _)); exact BK262.out⟩, ⟨by (with_reducible repeat (refine blk_alloc ?_ _)); exact BK277.out⟩, ⟨by (with_reducible repeat (refine blk_alloc ?_ _)); exact BK284.out⟩, ⟨by (with_reducible repeat (refine blk_alloc ?_ _)); exact BK292.out⟩, ⟨by repeat (first | (with_reducible first | exact HB.out | apply below_alloc | refine below_set ?_ GE262.out | refine below_set ?_ GE277.out | refine below_set ?_ GE284.out | refine below_set ?_ GE292.out) | exact HB.out)⟩⟩
              · rw [if_neg c75] at H
                have c75b0 : decide (t301 < 0) = false := decide_eq_false c75
                clear c75
                (first | rw [c75b0] | (simp only [i64_w, i32_w]; rw [c75b0]) | skip)
                replace H := Option.bind_eq_some_iff.mp H
                obtain ⟨t304, A760, H⟩ := H
                replace H : (if t304 = true then (laws_FnExactMendDisk.j1 kj10 t276 (t291 != t276) l0_0 l0_1 t270 t273 t285 t288) else (laws_FnExactMendDisk.j1 kj10 t276 true l0_0 l0_1 t270 t273 t285 t288)) = some r := H
                have A76 := Aside0.mk A760
                clear A760
                by_cases c77 : t304 = true
                · subst c77
                  have H1 : (laws_FnExactMendDisk.j1 kj10 t276 (t291 != t276) l0_0 l0_1 t270 t273 t285 t288) = some r := by rw [if_pos rfl] at H; exact H
                  clear H
                  have H := H1
                  clear H1
                  have H' := Aside0.mk H
                  clear H
                  have hnb78 := NB292_262.out
                  have hnc78 := NB262_292.out
                  have hnb79 := NB292_277.out
                  have hnc79 := NB277_292.out
                  have hnb80 := NB292_284.out
                  have hnc80 := NB284_292.out
                  have hcz81_0 : w74.cell? ⟨gb292, 0, none⟩ = some (.slice Ao35 t285.length co35) := (blk_cell BK292.out 0).trans rfl
                  have hcz81_1 : w74.cell? ⟨gb292, 1, none⟩ = some (.slice Ao40 t288.length co40) := (blk_cell BK292.out 1).trans rfl
                  have hfz81_0 := blk_frozen BK292.out 0
                  have hfz81_1 := blk_frozen BK292.out 1
                  have hnb82 := NB277_262.out
                  have hnc82 := NB262_277.out
                  have hnb83 := NB277_284.out
                  have hnc83 := NB284_277.out
                  have hcz84_0 : w74.cell? ⟨gb277, 0, none⟩ = some (.slice Ao21 t270.length co21) := (blk_cell BK277.out 0).trans rfl
                  have hcz84_1 : w74.cell? ⟨gb277, 1, none⟩ = some (.slice Ao24 t273.length co24) := (blk_cell BK277.out 1).trans rfl
                  have hfz84_0 := blk_frozen BK277.out 0
                  have hfz84_1 := blk_frozen BK277.out 1
                  go_wp2_with (first | (go_at_call 18; (with_reducible refine (laws_eqDisk.calls kj10 _ _ t285 _ _ t288 _ _ t270 _ _ t273 true _ ?side1 ?side2 ?side3 ?side4 ?side5 ?side6 ?side7 ?side8 A76.out).mono ?_); (case side1 => repeat (first | exact (Kd.R_reads' HO_293000.out).2.2 | (with_reducible refine Kd.C_alloc ?_ _))); (case side2 => exact (Kd.R_reads' HO_293000.out).2.1); (case side3 => repeat (first | exact (Kd.R_reads' HO_293001.out).2.2 | (with_reducible refine Kd.C_alloc ?_ _))); (case side4 => exact (Kd.R_reads' HO_293001.out).2.1); (case side5 => repeat (first | exact (Kd.R_reads' HO_278000.out).2.2 | (with_reducible refine Kd.C_alloc ?_ _))); (case side6 => exact (Kd.R_reads' HO_278000.out).2.1); (case side7 => repeat (first | exact (Kd.R_reads' HO_278001.out).2.2 | (with_reducible refine Kd.C_alloc ?_ _))); (case side8 => exact (Kd.R_reads' HO_278001.out).2.1); rintro e w85 ⟨rfl, hb⟩; have n0_ := Aside0.mk (Kd.R_below (by (with_reducible repeat (first | apply Kd.R_alloc)); exact HO_278000.out) hb); have n1_ := Aside0.mk (Kd.R_below (by (with_reducible repeat (first | apply Kd.R_alloc)); exact HO_278001.out) hb); have n2_ := Aside0.mk (Kd.R_below (by (with_reducible repeat (first | apply Kd.R_alloc)); exact HO_285000.out) hb); have n3_ := Aside0.mk (Kd.R_below (by (with_reducible repeat (first | apply Kd.R_alloc)); exact HO_285001.out) hb); have n4_ := Aside0.mk (Kd.R_below (by (with_reducible repeat (first | apply Kd.R_alloc)); exact HO_293000.out) hb); have n5_ := Aside0.mk (Kd.R_below (by (with_reducible repeat (first | apply Kd.R_alloc)); exact HO_293001.out) hb); have n6_ := Aside0.mk (Kd.R_below (by (with_reducible repeat (first | apply Kd.R_alloc)); exact HO296.out) hb); have n7_ := Aside0.mk (Kd.R_below (by (with_reducible repeat (first | apply Kd.R_alloc)); exact HO299.out) hb); have n8_ := Aside0.mk (blk_below (g := gb262) (o := .cells #[.slice A0_0 l0_0.length c0_0, .slice A0_1 l0_1.length c0_1] 30 (0, 0)) (by (with_reducible repeat (refine blk_alloc ?_ _)); exact BK262.out) hb); have n9_ := Aside0.mk (blk_below (g := gb277) (o := .cells #[.slice Ao21 t270.length co21, .slice Ao24 t273.length co24] 34 (0, 0)) (by (with_reducible repeat (refine blk_alloc ?_ _)); exact BK277.out) hb); have n10_ := Aside0.mk (blk_below (g := gb284) (o := .cells #[.slice Ao28 t278.length co28, .slice Ao32 t281.length co32] 34 (0, 0)) (by (with_reducible repeat (refine blk_alloc ?_ _)); exact BK284.out) hb); have n11_ := Aside0.mk (blk_below (g := gb292) (o := .cells #[.slice Ao35 t285.length co35, .slice Ao40 t288.length co40] 34 (0, 0)) (by (with_reducible repeat (refine blk_alloc ?_ _)); exact BK292.out) hb); have n12_ := Aside0.mk (below_step (by repeat (first | (with_reducible first | exact HB.out | apply below_alloc | refine below_set ?_ GE262.out | refine below_set ?_ GE277.out | refine below_set ?_ GE284.out | refine below_set ?_ GE292.out) | exact HB.out)) hb); clear HO_278000; clear HO_278001; clear HO_285000; clear HO_285001; clear HO_293000; clear HO_293001; clear HO296; clear HO299; clear BK262; clear BK277; clear BK284; clear BK292; clear HB; have HO_278000 := n0_; have HO_278001 := n1_; have HO_285000 := n2_; have HO_285001 := n3_; have HO_293000 := n4_; have HO_293001 := n5_; have HO296 := n6_; have HO299 := n7_; have BK262 := n8_; have BK277 := n9_; have BK284 := n10_; have BK292 := n11_; have HB := n12_; clear n0_ n1_ n2_ n3_ n4_ n5_ n6_ n7_ n8_ n9_ n10_ n11_ n12_; (try clear hb); (try clear hb2); (try clear hk); (try clear hi)))
                  go_meet
                  case rel => exact ⟨_, ((t291 != t276)), (by first | rfl | (simp; done) | (simp [*]; done)), H', ⟨by have := HJ10.out; first | omega | exact Nat.le_refl _⟩, ⟨by (with_reducible repeat (first | apply Kd.R_alloc)); exact Kd.R_mono HO_278000.out (fun _ hk => ⟨hk.1, ⟨hk.2.1, ⟨hk.2.2.1, ⟨hk.2.2.2.1, hk.2.2.2.2.1⟩⟩⟩⟩)⟩, ⟨by (with_reducible repeat (first | apply Kd.R_alloc)); exact Kd.R_mono HO_278001.out (fun _ hk => ⟨hk.1, ⟨hk.2.1, ⟨hk.2.2.1, ⟨hk.2.2.2.1, hk.2.2.2.2.1⟩⟩⟩⟩)⟩, ⟨by (with_reducible repeat (first | apply Kd.R_alloc)); exact Kd.R_mono HO_285000.out (fun _ hk => ⟨hk.1.1.1, ⟨hk.1.1.2.1, ⟨hk.1.1.2.2.1, ⟨hk.1.1.2.2.2.1, hk.1.1.2.2.2.2⟩⟩⟩⟩)⟩, ⟨by (with_reducible repeat (first | apply Kd.R_alloc)); exact Kd.R_mono HO_285001.out (fun _ hk => ⟨hk.1.1.1, ⟨hk.1.1.2.1, ⟨hk.1.1.2.2.1, ⟨hk.1.1.2.2.2.1, hk.1.1.2.2.2.2⟩⟩⟩⟩)⟩, ⟨by (with_reducible repeat (first | apply Kd.R_alloc)); exact Kd.R_mono HO_293000.out (fun _ hk => ⟨hk.1, ⟨hk.2.1, ⟨hk.2.2.1, ⟨hk.2.2.2.1, hk.2.2.2.2.1⟩⟩⟩⟩)⟩, ⟨by (with_reducible repeat (first | apply Kd.R_alloc)); exact Kd.R_mono HO_293001.out (fun _ hk => ⟨hk.1, ⟨hk.2.1, ⟨hk.2.2.1, ⟨hk.2.2.2.1, hk.2.2.2.2.1⟩⟩⟩⟩)⟩, ⟨by (with_reducible repeat (refine blk_alloc ?_ _)); exact BK262.out⟩, ⟨by (with_reducible repeat (refine blk_alloc ?_ _)); exact BK277.out⟩, ⟨by (with_reducible repeat (refine blk_alloc ?_ _)); exact BK284.out⟩, ⟨by (with_reducible repeat (refine blk_alloc ?_ _)); exact BK292.out⟩, ⟨by repeat (first | (with_reducible first | exact HB.out | apply below_alloc | refine below_set ?_ GE262.out | refine below_set ?_ GE277.out | refine below_set ?_ GE284.out | refine below_set ?_ GE292.out) | exact HB.out)⟩⟩
                · replace c77 := Bool.eq_false_iff.mpr c77
                  subst c77
                  have H1 : (laws_FnExactMendDisk.j1 kj10 t276 true l0_0 l0_1 t270 t273 t285 t288) = some r := by rw [if_neg (show ¬ (false = true) by decide)] at H; exact H
                  clear H
                  have H := H1
                  clear H1
                  have H' := Aside0.mk H
                  clear H
                  have hnb86 := NB292_262.out
                  have hnc86 := NB262_292.out
                  have hnb87 := NB292_277.out
                  have hnc87 := NB277_292.out
                  have hnb88 := NB292_284.out
                  have hnc88 := NB284_292.out
                  have hcz89_0 : w74.cell? ⟨gb292, 0, none⟩ = some (.slice Ao35 t285.length co35) := (blk_cell BK292.out 0).trans rfl
                  have hcz89_1 : w74.cell? ⟨gb292, 1, none⟩ = some (.slice Ao40 t288.length co40) := (blk_cell BK292.out 1).trans rfl
                  have hfz89_0 := blk_frozen BK292.out 0
                  have hfz89_1 := blk_frozen BK292.out 1
                  have hnb90 := NB277_262.out
                  have hnc90 := NB262_277.out
                  have hnb91 := NB277_284.out
                  have hnc91 := NB284_277.out
                  have hcz92_0 : w74.cell? ⟨gb277, 0, none⟩ = some (.slice Ao21 t270.length co21) := (blk_cell BK277.out 0).trans rfl
                  have hcz92_1 : w74.cell? ⟨gb277, 1, none⟩ = some (.slice Ao24 t273.length co24) := (blk_cell BK277.out 1).trans rfl
                  have hfz92_0 := blk_frozen BK277.out 0
                  have hfz92_1 := blk_frozen BK277.out 1
                  go_wp2_with (first | (go_at_call 18; (with_reducible refine (laws_eqDisk.calls kj10 _ _ t285 _ _ t288 _ _ t270 _ _ t273 false _ ?side1 ?side2 ?side3 ?side4 ?side5 ?side6 ?side7 ?side8 A76.out).mono ?_); (case side1 => repeat (first | exact (Kd.R_reads' HO_293000.out).2.2 | (with_reducible refine Kd.C_alloc ?_ _))); (case side2 => exact (Kd.R_reads' HO_293000.out).2.1); (case side3 => repeat (first | exact (Kd.R_reads' HO_293001.out).2.2 | (with_reducible refine Kd.C_alloc ?_ _))); (case side4 => exact (Kd.R_reads' HO_293001.out).2.1); (case side5 => repeat (first | exact (Kd.R_reads' HO_278000.out).2.2 | (with_reducible refine Kd.C_alloc ?_ _))); (case side6 => exact (Kd.R_reads' HO_278000.out).2.1); (case side7 => repeat (first | exact (Kd.R_reads' HO_278001.out).2.2 | (with_reducible refine Kd.C_alloc ?_ _))); (case side8 => exact (Kd.R_reads' HO_278001.out).2.1); rintro e w93 ⟨rfl, hb⟩; have n0_ := Aside0.mk (Kd.R_below (by (with_reducible repeat (first | apply Kd.R_alloc)); exact HO_278000.out) hb); have n1_ := Aside0.mk (Kd.R_below (by (with_reducible repeat (first | apply Kd.R_alloc)); exact HO_278001.out) hb); have n2_ := Aside0.mk (Kd.R_below (by (with_reducible repeat (first | apply Kd.R_alloc)); exact HO_285000.out) hb); have n3_ := Aside0.mk (Kd.R_below (by (with_reducible repeat (first | apply Kd.R_alloc)); exact HO_285001.out) hb); have n4_ := Aside0.mk (Kd.R_below (by (with_reducible repeat (first | apply Kd.R_alloc)); exact HO_293000.out) hb); have n5_ := Aside0.mk (Kd.R_below (by (with_reducible repeat (first | apply Kd.R_alloc)); exact HO_293001.out) hb); have n6_ := Aside0.mk (Kd.R_below (by (with_reducible repeat (first | apply Kd.R_alloc)); exact HO296.out) hb); have n7_ := Aside0.mk (Kd.R_below (by (with_reducible repeat (first | apply Kd.R_alloc)); exact HO299.out) hb); have n8_ := Aside0.mk (blk_below (g := gb262) (o := .cells #[.slice A0_0 l0_0.length c0_0, .slice A0_1 l0_1.length c0_1] 30 (0, 0)) (by (with_reducible repeat (refine blk_alloc ?_ _)); exact BK262.out) hb); have n9_ := Aside0.mk (blk_below (g := gb277) (o := .cells #[.slice Ao21 t270.length co21, .slice Ao24 t273.length co24] 34 (0, 0)) (by (with_reducible repeat (refine blk_alloc ?_ _)); exact BK277.out) hb); have n10_ := Aside0.mk (blk_below (g := gb284) (o := .cells #[.slice Ao28 t278.length co28, .slice Ao32 t281.length co32] 34 (0, 0)) (by (with_reducible repeat (refine blk_alloc ?_ _)); exact BK284.out) hb); have n11_ := Aside0.mk (blk_below (g := gb292) (o := .cells #[.slice Ao35 t285.length co35, .slice Ao40 t288.length co40] 34 (0, 0)) (by (with_reducible repeat (refine blk_alloc ?_ _)); exact BK292.out) hb); have n12_ := Aside0.mk (below_step (by repeat (first | (with_reducible first | exact HB.out | apply below_alloc | refine below_set ?_ GE262.out | refine below_set ?_ GE277.out | refine below_set ?_ GE284.out | refine below_set ?_ GE292.out) | exact HB.out)) hb); clear HO_278000; clear HO_278001; clear HO_285000; clear HO_285001; clear HO_293000; clear HO_293001; clear HO296; clear HO299; clear BK262; clear BK277; clear BK284; clear BK292; clear HB; have HO_278000 := n0_; have HO_278001 := n1_; have HO_285000 := n2_; have HO_285001 := n3_; have HO_293000 := n4_; have HO_293001 := n5_; have HO296 := n6_; have HO299 := n7_; have BK262 := n8_; have BK277 := n9_; have BK284 := n10_; have BK292 := n11_; have HB := n12_; clear n0_ n1_ n2_ n3_ n4_ n5_ n6_ n7_ n8_ n9_ n10_ n11_ n12_; (try clear hb); (try clear hb2); (try clear hk); (try clear hi)))
                  go_meet
                  case rel => exact ⟨_, (true), (by first | rfl | (simp; done) | (simp [*]; done)), H', ⟨by have := HJ10.out; first | omega | exact Nat.le_refl _⟩, ⟨by (with_reducible repeat (first | apply Kd.R_alloc)); exact Kd.R_mono HO_278000.out (fun _ hk => ⟨hk.1, ⟨hk.2.1, ⟨hk.2.2.1, ⟨hk.2.2.2.1, hk.2.2.2.2.1⟩⟩⟩⟩)⟩, ⟨by (with_reducible repeat (first | apply Kd.R_alloc)); exact Kd.R_mono HO_278001.out (fun _ hk => ⟨hk.1, ⟨hk.2.1, ⟨hk.2.2.1, ⟨hk.2.2.2.1, hk.2.2.2.2.1⟩⟩⟩⟩)⟩, ⟨by (with_reducible repeat (first | apply Kd.R_alloc)); exact Kd.R_mono HO_285000.out (fun _ hk => ⟨hk.1.1.1, ⟨hk.1.1.2.1, ⟨hk.1.1.2.2.1, ⟨hk.1.1.2.2.2.1, hk.1.1.2.2.2.2⟩⟩⟩⟩)⟩, ⟨by (with_reducible repeat (first | apply Kd.R_alloc)); exact Kd.R_mono HO_285001.out (fun _ hk => ⟨hk.1.1.1, ⟨hk.1.1.2.1, ⟨hk.1.1.2.2.1, ⟨hk.1.1.2.2.2.1, hk.1.1.2.2.2.2⟩⟩⟩⟩)⟩, ⟨by (with_reducible repeat (first | apply Kd.R_alloc)); exact Kd.R_mono HO_293000.out (fun _ hk => ⟨hk.1, ⟨hk.2.1, ⟨hk.2.2.1, ⟨hk.2.2.2.1, hk.2.2.2.2.1⟩⟩⟩⟩)⟩, ⟨by (with_reducible repeat (first | apply Kd.R_alloc)); exact Kd.R_mono HO_293001.out (fun _ hk => ⟨hk.1, ⟨hk.2.1, ⟨hk.2.2.1, ⟨hk.2.2.2.1, hk.2.2.2.2.1⟩⟩⟩⟩)⟩, ⟨by (with_reducible repeat (refine blk_alloc ?_ _)); exact BK262.out⟩, ⟨by (with_reducible repeat (refine blk_alloc ?_ _)); exact BK277.out⟩, ⟨by (with_reducible repeat (refine blk_alloc ?_ _)); exact BK284.out⟩, ⟨by (with_reducible repeat (refine blk_alloc ?_ _)); exact BK292.out⟩, ⟨by repeat (first | (with_reducible first | exact HB.out | apply below_alloc | refine below_set ?_ GE262.out | refine below_set ?_ GE277.out | refine below_set ?_ GE284.out | refine below_set ?_ GE292.out) | exact HB.out)⟩⟩
            case rest =>
              clear HC64
              try clear c1
              try clear c2
              try clear p2
              try clear c3
              try clear c3b0
              try clear c4
              try clear c5
              try clear c6
              try clear c7
              try clear c8
              try clear c9
              try clear c13
              try clear c15
              try clear c18
              try clear c19
              try clear c22
              try clear c23
              try clear c29
              try clear c30
              try clear c36
              try clear c37
              try clear c38
              try clear c42
              try clear c43
              try clear c44
              try clear c45
              try clear c47
              try clear c48
              try clear c51
              try clear c52
              try clear c53
              try clear c55
              try clear c56
              try clear c59
              try clear c62
              try clear c70
              try clear c71
              try clear c72
              try clear c75
              try clear c75b0
              try clear c77
              try clear c78
              try clear c79
              try clear c80
              try clear c82
              try clear c83
              try clear c86
              try clear c87
              try clear c88
              try clear c90
              try clear c91
              try clear hcz13_0
              try clear hcz13_1
              try clear hcz15_0
              try clear hcz15_1
              try clear hcz23_0
              try clear hcz23_1
              try clear hcz25_0
              try clear hcz25_1
              try clear hcz31_0
              try clear hcz31_1
              try clear hcz39_0
              try clear hcz39_1
              try clear hcz46_0
              try clear hcz46_1
              try clear hcz49_0
              try clear hcz49_1
              try clear hcz54_0
              try clear hcz54_1
              try clear hcz57_0
              try clear hcz57_1
              try clear hcz5_0
              try clear hcz5_1
              try clear hcz73_0
              try clear hcz73_1
              try clear hcz81_0
              try clear hcz81_1
              try clear hcz84_0
              try clear hcz84_1
              try clear hcz89_0
              try clear hcz89_1
              try clear hcz92_0
              try clear hcz92_1
              try clear hfz13_0
              try clear hfz13_1
              try clear hfz15_0
              try clear hfz15_1
              try clear hfz23_0
              try clear hfz23_1
              try clear hfz25_0
              try clear hfz25_1
              try clear hfz31_0
              try clear hfz31_1
              try clear hfz39_0
              try clear hfz39_1
              try clear hfz46_0
              try clear hfz46_1
              try clear hfz49_0
              try clear hfz49_1
              try clear hfz54_0
              try clear hfz54_1
              try clear hfz57_0
              try clear hfz57_1
              try clear hfz5_0
              try clear hfz5_1
              try clear hfz73_0
              try clear hfz73_1
              try clear hfz81_0
              try clear hfz81_1
              try clear hfz84_0
              try clear hfz84_1
              try clear hfz89_0
              try clear hfz89_1
              try clear hfz92_0
              try clear hfz92_1
              try clear p2
              obtain ⟨kq, x61_63, rfl, HA, HJ63, HO_278000, HO_278001, HO_285000, HO_285001, HO_293000, HO_293001, BK262, BK277, BK284, BK292, HB⟩ := hcut
              have hl285000_63 := (Kd.R_reads' HO_285000.out).1
              rw [hl285000_63] at HO_285000
              (try simp only [hl285000_63])
              (try simp only [hl285000_63] at BK262)
              (try simp only [hl285000_63] at BK277)
              (try simp only [hl285000_63] at BK284)
              (try simp only [hl285000_63] at BK292)
              (try simp only [hl285000_63] at HO_278000)
              (try simp only [hl285000_63] at HO_278001)
              (try simp only [hl285000_63] at HO_285001)
              (try simp only [hl285000_63] at HO_293000)
              (try simp only [hl285000_63] at HO_293001)
              have hl285001_63 := (Kd.R_reads' HO_285001.out).1
              rw [hl285001_63] at HO_285001
              (try simp only [hl285001_63])
              (try simp only [hl285001_63] at BK262)
              (try simp only [hl285001_63] at BK277)
              (try simp only [hl285001_63] at BK284)
              (try simp only [hl285001_63] at BK292)
              (try simp only [hl285001_63] at HO_278000)
              (try simp only [hl285001_63] at HO_278001)
              (try simp only [hl285001_63] at HO_285000)
              (try simp only [hl285001_63] at HO_293000)
              (try simp only [hl285001_63] at HO_293001)
              cases kq with
              | zero => exact absurd HA.out (by simp [laws_FnExactMendDisk.j1])
              | succ kj63 =>
                have H := HA.out
                clear HA
                simp only [laws_FnExactMendDisk.j1] at H
                by_cases c94 : x61_63 = true
                · subst c94
                  have H1 : (some false) = some r := by rw [if_pos rfl] at H; exact H
                  clear H
                  have H := H1
                  clear H1
                  obtain rfl := Option.some.inj H
                  go_wp2
                  go_ret
                  exact ⟨by first | rfl | (simp [errW_none, errW_some] <;> rfl) | (simp [*, errW_none, errW_some] <;> rfl), by repeat (first | (with_reducible first | exact HB.out | apply below_alloc | refine below_set ?_ GE262.out | refine below_set ?_ GE277.out | refine below_set ?_ GE284.out | refine below_set ?_ GE292.out) | exact HB.out)⟩
                · replace c94 := Bool.eq_false_iff.mpr c94
                  subst c94
                  have H1 : ((laws_markDisk.f kj63 t285 t288 1).bind fun bt305 => ((laws_heldDisk.f kj63 bt305.2.1 bt305.2.2 1).bind fun t308 => (if t308 < 0 then (some false) else (if t308 = bt305.1 then ((laws_toDisk.f kj63 l0_0 l0_1).bind fun bt309 => ((impl_MendDisk.f kj63 bt309.1 bt309.2).bind fun bt315 => ((laws_eqDisk.f kj63 bt315.1 bt315.2.1 t270 t273).bind fun t323 => (if t323 = true then (laws_FnExactMendDisk.j2 kj63 bt305.1 (bt315.2.2 != t276) bt305.2.1 bt305.2.2) else (laws_FnExactMendDisk.j2 kj63 bt305.1 true bt305.2.1 bt305.2.2))))) else (some false))))) = some r := by rw [if_neg (show ¬ (false = true) by decide)] at H; exact H
                  clear H
                  have H := H1
                  clear H1
                  replace H := Option.bind_eq_some_iff.mp H
                  obtain ⟨⟨t305, t306, t307⟩, A950, H⟩ := H
                  replace H : ((laws_heldDisk.f kj63 t306 t307 1).bind fun t308 => (if t308 < 0 then (some false) else (if t308 = t305 then ((laws_toDisk.f kj63 l0_0 l0_1).bind fun bt309 => ((impl_MendDisk.f kj63 bt309.1 bt309.2).bind fun bt315 => ((laws_eqDisk.f kj63 bt315.1 bt315.2.1 t270 t273).bind fun t323 => (if t323 = true then (laws_FnExactMendDisk.j2 kj63 t305 (bt315.2.2 != t276) t306 t307) else (laws_FnExactMendDisk.j2 kj63 t305 true t306 t307))))) else (some false)))) = some r := H
                  have A95 := Aside0.mk A950
                  clear A950
                  replace H := Option.bind_eq_some_iff.mp H
                  obtain ⟨t308, A960, H⟩ := H
                  replace H : (if t308 < 0 then (some false) else (if t308 = t305 then ((laws_toDisk.f kj63 l0_0 l0_1).bind fun bt309 => ((impl_MendDisk.f kj63 bt309.1 bt309.2).bind fun bt315 => ((laws_eqDisk.f kj63 bt315.1 bt315.2.1 t270 t273).bind fun t323 => (if t323 = true then (laws_FnExactMendDisk.j2 kj63 t305 (bt315.2.2 != t276) t306 t307) else (laws_FnExactMendDisk.j2 kj63 t305 true t306 t307))))) else (some false))) = some r := H
                  have A96 := Aside0.mk A960
                  clear A960
                  by_cases c97 : t308 < 0
                  · rw [if_pos c97] at H
                    have c97b0 : decide (t308 < 0) = true := decide_eq_true c97
                    clear c97
                    obtain rfl := Option.some.inj H
                    have hnb98 := NB292_262.out
                    have hnc98 := NB262_292.out
                    have hnb99 := NB292_277.out
                    have hnc99 := NB277_292.out
                    have hnb100 := NB292_284.out
                    have hnc100 := NB284_292.out
                    have hcz101_0 : wc.cell? ⟨gb292, 0, none⟩ = some (.slice Ao35 t285.length co35) := (blk_cell BK292.out 0).trans rfl
                    have hcz101_1 : wc.cell? ⟨gb292, 1, none⟩ = some (.slice Ao40 t288.length co40) := (blk_cell BK292.out 1).trans rfl
                    have hfz101_0 := blk_frozen BK292.out 0
                    have hfz101_1 := blk_frozen BK292.out 1
                    go_wp2_with (first | ((with_reducible refine gate_callee (f := 19) rfl ?_); refine goesL_ (some 64) rfl rfl Try.func19 (by kernel_rfl) rfl #[.agg #[.slice Ao35 t285.length co35, .slice Ao40 t288.length co40], .int .i64 1] rfl (by (try simp only [List.map_toArray, List.map_cons, List.map_nil]); first | done | rfl | (simp only [List.length_drop, List.length_take]; rfl)) ?_; (with_reducible refine (laws_markDisk.calls kj63 (fun k_ => some k_ = (.slice Ao35 t285.length co35 : Value).ownBlock) (.slice Ao35 t285.length co35) t285 (fun k_ => some k_ = (.slice Ao40 t288.length co40 : Value).ownBlock) (.slice Ao40 t288.length co40) t288 1 t305 t306 t307 w _ ?side1 ?side2 ?side3 ?side4 ?side5 A95.out).mono ?_); (case side1 => repeat (first | (with_reducible first | exact HB.out | apply below_alloc | refine below_set ?_ GE262.out | refine below_set ?_ GE277.out | refine below_set ?_ GE284.out | refine below_set ?_ GE292.out) | exact HB.out)); (case side2 => exact Kd.R_tight rfl HO_293000.out); (case side3 => exact fun k_ e_ => (HO_293000.out.1 k_ e_.symm).2.2.2.2); (case side4 => exact Kd.R_tight rfl HO_293001.out); (case side5 => exact fun k_ e_ => (HO_293001.out.1 k_ e_.symm).2.2.2.2); rintro e w102 ⟨rfl, hy0, hy1, hb, hkp⟩; refine ⟨_, rfl, ?_⟩; have n0_ := Aside0.mk (Kd.R_mono (ok' := fun k_ => some k_ ≠ (.slice Ao24 t273.length co24 : Value).ownBlock ∧ some k_ ≠ (.slice Ao28 t302.length co28 : Value).ownBlock ∧ some k_ ≠ (.slice Ao32 t303.length co32 : Value).ownBlock ∧ some k_ ≠ (.slice Ao35 t285.length co35 : Value).ownBlock ∧ some k_ ≠ (.slice Ao40 t288.length co40 : Value).ownBlock) (Kd.R_keptB (HO_278000.out) hkp (fun k_ hk_ hs_ => Or.elim hs_ (fun e_ => (hk_.2.2.2.1) e_) (fun e_ => (hk_.2.2.2.2) e_))) (fun k_ hk_ => ⟨hk_.1.1, hk_.1.2.1, hk_.1.2.2.1, hk_.1.2.2.2.1, hk_.1.2.2.2.2⟩)); have n1_ := Aside0.mk (Kd.R_mono (ok' := fun k_ => some k_ ≠ (.slice Ao21 t270.length co21 : Value).ownBlock ∧ some k_ ≠ (.slice Ao28 t302.length co28 : Value).ownBlock ∧ some k_ ≠ (.slice Ao32 t303.length co32 : Value).ownBlock ∧ some k_ ≠ (.slice Ao35 t285.length co35 : Value).ownBlock ∧ some k_ ≠ (.slice Ao40 t288.length co40 : Value).ownBlock) (Kd.R_keptB (HO_278001.out) hkp (fun k_ hk_ hs_ => Or.elim hs_ (fun e_ => (hk_.2.2.2.1) e_) (fun e_ => (hk_.2.2.2.2) e_))) (fun k_ hk_ => ⟨hk_.1.1, hk_.1.2.1, hk_.1.2.2.1, hk_.1.2.2.2.1, hk_.1.2.2.2.2⟩)); have n2_ := Aside0.mk (Kd.R_mono (ok' := fun k_ => some k_ ≠ (.slice Ao21 t270.length co21 : Value).ownBlock ∧ some k_ ≠ (.slice Ao24 t273.length co24 : Value).ownBlock ∧ some k_ ≠ (.slice Ao32 t303.length co32 : Value).ownBlock ∧ some k_ ≠ (.slice Ao35 t285.length co35 : Value).ownBlock ∧ some k_ ≠ (.slice Ao40 t288.length co40 : Value).ownBlock) (Kd.R_keptB (HO_285000.out) hkp (fun k_ hk_ hs_ => Or.elim hs_ (fun e_ => (hk_.2.2.2.1) e_) (fun e_ => (hk_.2.2.2.2) e_))) (fun k_ hk_ => ⟨hk_.1.1, hk_.1.2.1, hk_.1.2.2.1, hk_.1.2.2.2.1, hk_.1.2.2.2.2⟩)); have n3_ := Aside0.mk (Kd.R_mono (ok' := fun k_ => some k_ ≠ (.slice Ao21 t270.length co21 : Value).ownBlock ∧ some k_ ≠ (.slice Ao24 t273.length co24 : Value).ownBlock ∧ some k_ ≠ (.slice Ao28 t302.length co28 : Value).ownBlock ∧ some k_ ≠ (.slice Ao35 t285.length co35 : Value).ownBlock ∧ some k_ ≠ (.slice Ao40 t288.length co40 : Value).ownBlock) (Kd.R_keptB (HO_285001.out) hkp (fun k_ hk_ hs_ => Or.elim hs_ (fun e_ => (hk_.2.2.2.1) e_) (fun e_ => (hk_.2.2.2.2) e_))) (fun k_ hk_ => ⟨hk_.1.1, hk_.1.2.1, hk_.1.2.2.1, hk_.1.2.2.2.1, hk_.1.2.2.2.2⟩)); have n4_ := Aside0.mk (Kd.R_reok rfl hy0 (fun k_ e_ => HO_293000.out.1 k_ e_)); have n5_ := Aside0.mk (Kd.R_reok rfl hy1 (fun k_ e_ => HO_293001.out.1 k_ e_)); have n6_ := Aside0.mk (blk_kept (by (with_reducible repeat (refine blk_alloc ?_ _)); exact BK262.out) hkp (fun hs_ => Or.elim hs_ (fun e_ => (fun e_ => (Kd.R_ne HO_293000.out BK262.out (by decide)) e_) e_) (fun e_ => (fun e_ => (Kd.R_ne HO_293001.out BK262.out (by decide)) e_) e_))); have n7_ := Aside0.mk (blk_kept (by (with_reducible repeat (refine blk_alloc ?_ _)); exact BK277.out) hkp (fun hs_ => Or.elim hs_ (fun e_ => (fun e_ => (Kd.R_ne HO_293000.out BK277.out (by decide)) e_) e_) (fun e_ => (fun e_ => (Kd.R_ne HO_293001.out BK277.out (by decide)) e_) e_))); have n8_ := Aside0.mk (blk_kept (by (with_reducible repeat (refine blk_alloc ?_ _)); exact BK284.out) hkp (fun hs_ => Or.elim hs_ (fun e_ => (fun e_ => (Kd.R_ne HO_293000.out BK284.out (by decide)) e_) e_) (fun e_ => (fun e_ => (Kd.R_ne HO_293001.out BK284.out (by decide)) e_) e_))); have n9_ := Aside0.mk (blk_kept (by (with_reducible repeat (refine blk_alloc ?_ _)); exact BK292.out) hkp (fun hs_ => Or.elim hs_ (fun e_ => (fun e_ => (Kd.R_ne HO_293000.out BK292.out (by decide)) e_) e_) (fun e_ => (fun e_ => (Kd.R_ne HO_293001.out BK292.out (by decide)) e_) e_))); have n10_ := Aside0.mk (hb); clear HO_278000; clear HO_278001; clear HO_285000; clear HO_285001; clear HO_293000; clear HO_293001; clear BK262; clear BK277; clear BK284; clear BK292; clear HB; have HO_278000 := n0_; have HO_278001 := n1_; have HO_285000 := n2_; have HO_285001 := n3_; have HO_293000 := n4_; have HO_293001 := n5_; have BK262 := n6_; have BK277 := n7_; have BK284 := n8_; have BK292 := n9_; have HB := n10_; clear n0_ n1_ n2_ n3_ n4_ n5_ n6_ n7_ n8_ n9_ n10_; (try clear hb); (try clear hkp); (try clear hy0); (try clear hy1); have hcz103_0 : w102.cell? ⟨gb292, 0, none⟩ = some (.slice Ao35 t285.length co35) := (blk_cell BK292.out 0).trans rfl; have hcz103_1 : w102.cell? ⟨gb292, 1, none⟩ = some (.slice Ao40 t288.length co40) := (blk_cell BK292.out 1).trans rfl; have hfz103_0 := blk_frozen BK292.out 0; have hfz103_1 := blk_frozen BK292.out 1) | ((with_reducible refine gate_callee (f := 24) rfl ?_); refine goesL_ (some 67) rfl rfl Try.func24 (by kernel_rfl) rfl #[.agg #[.slice Ao35 t306.length co35, .slice Ao40 t307.length co40], .int .i64 1] rfl (by (try simp only [List.map_toArray, List.map_cons, List.map_nil]); first | done | (rw [show t306.length = t285.length from (Kd.R_reads' HO_293000.out).1.symm, show t307.length = t288.length from (Kd.R_reads' HO_293001.out).1.symm] <;> rfl) | rfl | (simp only [List.length_drop, List.length_take]; rfl)) ?_; (with_reducible refine (laws_heldDisk.calls kj63 _ _ t306 _ _ t307 1 t308 _ ?side1 ?side2 ?side3 ?side4 A96.out).mono ?_); (case side1 => repeat (first | exact (Kd.R_reads' HO_293000.out).2.2 | (with_reducible refine Kd.C_alloc ?_ _))); (case side2 => rw [show t306.length = t285.length from (Kd.R_reads' HO_293000.out).1.symm]; exact (Kd.R_reads' HO_293000.out).2.1); (case side3 => repeat (first | exact (Kd.R_reads' HO_293001.out).2.2 | (with_reducible refine Kd.C_alloc ?_ _))); (case side4 => rw [show t307.length = t288.length from (Kd.R_reads' HO_293001.out).1.symm]; exact (Kd.R_reads' HO_293001.out).2.1); rintro e w104 ⟨rfl, hb⟩; refine ⟨_, rfl, ?_⟩; have n0_ := Aside0.mk (Kd.R_below (by (with_reducible repeat (first | apply Kd.R_alloc)); exact HO_278000.out) hb); have n1_ := Aside0.mk (Kd.R_below (by (with_reducible repeat (first | apply Kd.R_alloc)); exact HO_278001.out) hb); have n2_ := Aside0.mk (Kd.R_below (by (with_reducible repeat (first | apply Kd.R_alloc)); exact HO_285000.out) hb); have n3_ := Aside0.mk (Kd.R_below (by (with_reducible repeat (first | apply Kd.R_alloc)); exact HO_285001.out) hb); have n4_ := Aside0.mk (Kd.R_below (by (with_reducible repeat (first | apply Kd.R_alloc)); exact HO_293000.out) hb); have n5_ := Aside0.mk (Kd.R_below (by (with_reducible repeat (first | apply Kd.R_alloc)); exact HO_293001.out) hb); have n6_ := Aside0.mk (blk_below (g := gb262) (o := .cells #[.slice A0_0 l0_0.length c0_0, .slice A0_1 l0_1.length c0_1] 30 (0, 0)) (by (with_reducible repeat (refine blk_alloc ?_ _)); exact BK262.out) hb); have n7_ := Aside0.mk (blk_below (g := gb277) (o := .cells #[.slice Ao21 t270.length co21, .slice Ao24 t273.length co24] 34 (0, 0)) (by (with_reducible repeat (refine blk_alloc ?_ _)); exact BK277.out) hb); have n8_ := Aside0.mk (blk_below (g := gb284) (o := .cells #[.slice Ao28 t302.length co28, .slice Ao32 t303.length co32] 34 (0, 0)) (by (with_reducible repeat (refine blk_alloc ?_ _)); exact BK284.out) hb); have n9_ := Aside0.mk (blk_below (g := gb292) (o := .cells #[.slice Ao35 t285.length co35, .slice Ao40 t288.length co40] 34 (0, 0)) (by (with_reducible repeat (refine blk_alloc ?_ _)); exact BK292.out) hb); have n10_ := Aside0.mk (below_step (by repeat (first | (with_reducible first | exact HB.out | apply below_alloc | refine below_set ?_ GE262.out | refine below_set ?_ GE277.out | refine below_set ?_ GE284.out | refine below_set ?_ GE292.out) | exact HB.out)) hb); clear HO_278000; clear HO_278001; clear HO_285000; clear HO_285001; clear HO_293000; clear HO_293001; clear BK262; clear BK277; clear BK284; clear BK292; clear HB; have HO_278000 := n0_; have HO_278001 := n1_; have HO_285000 := n2_; have HO_285001 := n3_; have HO_293000 := n4_; have HO_293001 := n5_; have BK262 := n6_; have BK277 := n7_; have BK284 := n8_; have BK292 := n9_; have HB := n10_; clear n0_ n1_ n2_ n3_ n4_ n5_ n6_ n7_ n8_ n9_ n10_; (try clear hb); (try clear hb2); (try clear hk); (try clear hi)))
                    go_ret
                    exact ⟨by first | rfl | (simp [errW_none, errW_some] <;> rfl) | (simp [*, errW_none, errW_some] <;> rfl), by repeat (first | (with_reducible first | exact HB.out | apply below_alloc | refine below_set ?_ GE262.out | refine below_set ?_ GE277.out | refine below_set ?_ GE284.out | refine below_set ?_ GE292.out) | exact HB.out)⟩
                  · rw [if_neg c97] at H
                    have c97b0 : decide (t308 < 0) = false := decide_eq_false c97
                    clear c97
                    by_cases c105 : t308 = t305
                    · rw [if_pos c105] at H
                      have c105b0 : (t308 == t305) = true := beq_iff_eq.mpr c105
                      have c105b1 : (t308 != t305) = false := bne_eq_false_iff_eq.mpr c105
                      clear c105
                      replace H := Option.bind_eq_some_iff.mp H
                      obtain ⟨⟨t309, t312⟩, A1060, H⟩ := H
                      replace H : ((impl_MendDisk.f kj63 t309 t312).bind fun bt315 => ((laws_eqDisk.f kj63 bt315.1 bt315.2.1 t270 t273).bind fun t323 => (if t323 = true then (laws_FnExactMendDisk.j2 kj63 t305 (bt315.2.2 != t276) t306 t307) else (laws_FnExactMendDisk.j2 kj63 t305 true t306 t307)))) = some r := H
                      have A106 := Aside0.mk A1060
                      clear A1060
                      replace H := Option.bind_eq_some_iff.mp H
                      obtain ⟨⟨t315, t318, t321⟩, A1070, H⟩ := H
                      replace H : ((laws_eqDisk.f kj63 t315 t318 t270 t273).bind fun t323 => (if t323 = true then (laws_FnExactMendDisk.j2 kj63 t305 (t321 != t276) t306 t307) else (laws_FnExactMendDisk.j2 kj63 t305 true t306 t307))) = some r := H
                      have A107 := Aside0.mk A1070
                      clear A1070
                      have HC108 := Aside0.mk H
                      clear H
                      have hnb109 := NB292_262.out
                      have hnc109 := NB262_292.out
                      have hnb110 := NB292_277.out
                      have hnc110 := NB277_292.out
                      have hnb111 := NB292_284.out
                      have hnc111 := NB284_292.out
                      have hcz112_0 : wc.cell? ⟨gb292, 0, none⟩ = some (.slice Ao35 t285.length co35) := (blk_cell BK292.out 0).trans rfl
                      have hcz112_1 : wc.cell? ⟨gb292, 1, none⟩ = some (.slice Ao40 t288.length co40) := (blk_cell BK292.out 1).trans rfl
                      have hfz112_0 := blk_frozen BK292.out 0
                      have hfz112_1 := blk_frozen BK292.out 1
                      go_upto_region 25 with (first | ((with_reducible refine gate_callee (f := 19) rfl ?_); refine goesL_ (some 64) rfl rfl Try.func19 (by kernel_rfl) rfl #[.agg #[.slice Ao35 t285.length co35, .slice Ao40 t288.length co40], .int .i64 1] rfl (by (try simp only [List.map_toArray, List.map_cons, List.map_nil]); first | done | rfl | (simp only [List.length_drop, List.length_take]; rfl)) ?_; (with_reducible refine (laws_markDisk.calls kj63 (fun k_ => some k_ = (.slice Ao35 t285.length co35 : Value).ownBlock) (.slice Ao35 t285.length co35) t285 (fun k_ => some k_ = (.slice Ao40 t288.length co40 : Value).ownBlock) (.slice Ao40 t288.length co40) t288 1 t305 t306 t307 w _ ?side1 ?side2 ?side3 ?side4 ?side5 A95.out).mono ?_); (case side1 => repeat (first | (with_reducible first | exact HB.out | apply below_alloc | refine below_set ?_ GE262.out | refine below_set ?_ GE277.out | refine below_set ?_ GE284.out | refine below_set ?_ GE292.out) | exact HB.out)); (case side2 => exact Kd.R_tight rfl HO_293000.out); (case side3 => exact fun k_ e_ => (HO_293000.out.1 k_ e_.symm).2.2.2.2); (case side4 => exact Kd.R_tight rfl HO_293001.out); (case side5 => exact fun k_ e_ => (HO_293001.out.1 k_ e_.symm).2.2.2.2); rintro e w113 ⟨rfl, hy0, hy1, hb, hkp⟩; refine ⟨_, rfl, ?_⟩; have n0_ := Aside0.mk (Kd.R_mono (ok' := fun k_ => some k_ ≠ (.slice Ao24 t273.length co24 : Value).ownBlock ∧ some k_ ≠ (.slice Ao28 t302.length co28 : Value).ownBlock ∧ some k_ ≠ (.slice Ao32 t303.length co32 : Value).ownBlock ∧ some k_ ≠ (.slice Ao35 t285.length co35 : Value).ownBlock ∧ some k_ ≠ (.slice Ao40 t288.length co40 : Value).ownBlock) (Kd.R_keptB (HO_278000.out) hkp (fun k_ hk_ hs_ => Or.elim hs_ (fun e_ => (hk_.2.2.2.1) e_) (fun e_ => (hk_.2.2.2.2) e_))) (fun k_ hk_ => ⟨hk_.1.1, hk_.1.2.1, hk_.1.2.2.1, hk_.1.2.2.2.1, hk_.1.2.2.2.2⟩)); have n1_ := Aside0.mk (Kd.R_mono (ok' := fun k_ => some k_ ≠ (.slice Ao21 t270.length co21 : Value).ownBlock ∧ some k_ ≠ (.slice Ao28 t302.length co28 : Value).ownBlock ∧ some k_ ≠ (.slice Ao32 t303.length co32 : Value).ownBlock ∧ some k_ ≠ (.slice Ao35 t285.length co35 : Value).ownBlock ∧ some k_ ≠ (.slice Ao40 t288.length co40 : Value).ownBlock) (Kd.R_keptB (HO_278001.out) hkp (fun k_ hk_ hs_ => Or.elim hs_ (fun e_ => (hk_.2.2.2.1) e_) (fun e_ => (hk_.2.2.2.2) e_))) (fun k_ hk_ => ⟨hk_.1.1, hk_.1.2.1, hk_.1.2.2.1, hk_.1.2.2.2.1, hk_.1.2.2.2.2⟩)); have n2_ := Aside0.mk (Kd.R_mono (ok' := fun k_ => some k_ ≠ (.slice Ao21 t270.length co21 : Value).ownBlock ∧ some k_ ≠ (.slice Ao24 t273.length co24 : Value).ownBlock ∧ some k_ ≠ (.slice Ao32 t303.length co32 : Value).ownBlock ∧ some k_ ≠ (.slice Ao35 t285.length co35 : Value).ownBlock ∧ some k_ ≠ (.slice Ao40 t288.length co40 : Value).ownBlock) (Kd.R_keptB (HO_285000.out) hkp (fun k_ hk_ hs_ => Or.elim hs_ (fun e_ => (hk_.2.2.2.1) e_) (fun e_ => (hk_.2.2.2.2) e_))) (fun k_ hk_ => ⟨hk_.1.1, hk_.1.2.1, hk_.1.2.2.1, hk_.1.2.2.2.1, hk_.1.2.2.2.2⟩)); have n3_ := Aside0.mk (Kd.R_mono (ok' := fun k_ => some k_ ≠ (.slice Ao21 t270.length co21 : Value).ownBlock ∧ some k_ ≠ (.slice Ao24 t273.length co24 : Value).ownBlock ∧ some k_ ≠ (.slice Ao28 t302.length co28 : Value).ownBlock ∧ some k_ ≠ (.slice Ao35 t285.length co35 : Value).ownBlock ∧ some k_ ≠ (.slice Ao40 t288.length co40 : Value).ownBlock) (Kd.R_keptB (HO_285001.out) hkp (fun k_ hk_ hs_ => Or.elim hs_ (fun e_ => (hk_.2.2.2.1) e_) (fun e_ => (hk_.2.2.2.2) e_))) (fun k_ hk_ => ⟨hk_.1.1, hk_.1.2.1, hk_.1.2.2.1, hk_.1.2.2.2.1, hk_.1.2.2.2.2⟩)); have n4_ := Aside0.mk (Kd.R_reok rfl hy0 (fun k_ e_ => HO_293000.out.1 k_ e_)); have n5_ := Aside0.mk (Kd.R_reok rfl hy1 (fun k_ e_ => HO_293001.out.1 k_ e_)); have n6_ := Aside0.mk (blk_kept (by (with_reducible repeat (refine blk_alloc ?_ _)); exact BK262.out) hkp (fun hs_ => Or.elim hs_ (fun e_ => (fun e_ => (Kd.R_ne HO_293000.out BK262.out (by decide)) e_) e_) (fun e_ => (fun e_ => (Kd.R_ne HO_293001.out BK262.out (by decide)) e_) e_))); have n7_ := Aside0.mk (blk_kept (by (with_reducible repeat (refine blk_alloc ?_ _)); exact BK277.out) hkp (fun hs_ => Or.elim hs_ (fun e_ => (fun e_ => (Kd.R_ne HO_293000.out BK277.out (by decide)) e_) e_) (fun e_ => (fun e_ => (Kd.R_ne HO_293001.out BK277.out (by decide)) e_) e_))); have n8_ := Aside0.mk (blk_kept (by (with_reducible repeat (refine blk_alloc ?_ _)); exact BK284.out) hkp (fun hs_ => Or.elim hs_ (fun e_ => (fun e_ => (Kd.R_ne HO_293000.out BK284.out (by decide)) e_) e_) (fun e_ => (fun e_ => (Kd.R_ne HO_293001.out BK284.out (by decide)) e_) e_))); have n9_ := Aside0.mk (blk_kept (by (with_reducible repeat (refine blk_alloc ?_ _)); exact BK292.out) hkp (fun hs_ => Or.elim hs_ (fun e_ => (fun e_ => (Kd.R_ne HO_293000.out BK292.out (by decide)) e_) e_) (fun e_ => (fun e_ => (Kd.R_ne HO_293001.out BK292.out (by decide)) e_) e_))); have n10_ := Aside0.mk (hb); clear HO_278000; clear HO_278001; clear HO_285000; clear HO_285001; clear HO_293000; clear HO_293001; clear BK262; clear BK277; clear BK284; clear BK292; clear HB; have HO_278000 := n0_; have HO_278001 := n1_; have HO_285000 := n2_; have HO_285001 := n3_; have HO_293000 := n4_; have HO_293001 := n5_; have BK262 := n6_; have BK277 := n7_; have BK284 := n8_; have BK292 := n9_; have HB := n10_; clear n0_ n1_ n2_ n3_ n4_ n5_ n6_ n7_ n8_ n9_ n10_; (try clear hb); (try clear hkp); (try clear hy0); (try clear hy1); have hcz114_0 : w113.cell? ⟨gb292, 0, none⟩ = some (.slice Ao35 t285.length co35) := (blk_cell BK292.out 0).trans rfl; have hcz114_1 : w113.cell? ⟨gb292, 1, none⟩ = some (.slice Ao40 t288.length co40) := (blk_cell BK292.out 1).trans rfl; have hfz114_0 := blk_frozen BK292.out 0; have hfz114_1 := blk_frozen BK292.out 1) | ((with_reducible refine gate_callee (f := 24) rfl ?_); refine goesL_ (some 67) rfl rfl Try.func24 (by kernel_rfl) rfl #[.agg #[.slice Ao35 t306.length co35, .slice Ao40 t307.length co40], .int .i64 1] rfl (by (try simp only [List.map_toArray, List.map_cons, List.map_nil]); first | done | (rw [show t306.length = t285.length from (Kd.R_reads' HO_293000.out).1.symm, show t307.length = t288.length from (Kd.R_reads' HO_293001.out).1.symm] <;> rfl) | rfl | (simp only [List.length_drop, List.length_take]; rfl)) ?_; (with_reducible refine (laws_heldDisk.calls kj63 _ _ t306 _ _ t307 1 t308 _ ?side1 ?side2 ?side3 ?side4 A96.out).mono ?_); (case side1 => repeat (first | exact (Kd.R_reads' HO_293000.out).2.2 | (with_reducible refine Kd.C_alloc ?_ _))); (case side2 => rw [show t306.length = t285.length from (Kd.R_reads' HO_293000.out).1.symm]; exact (Kd.R_reads' HO_293000.out).2.1); (case side3 => repeat (first | exact (Kd.R_reads' HO_293001.out).2.2 | (with_reducible refine Kd.C_alloc ?_ _))); (case side4 => rw [show t307.length = t288.length from (Kd.R_reads' HO_293001.out).1.symm]; exact (Kd.R_reads' HO_293001.out).2.1); rintro e w115 ⟨rfl, hb⟩; refine ⟨_, rfl, ?_⟩; have n0_ := Aside0.mk (Kd.R_below (by (with_reducible repeat (first | apply Kd.R_alloc)); exact HO_278000.out) hb); have n1_ := Aside0.mk (Kd.R_below (by (with_reducible repeat (first | apply Kd.R_alloc)); exact HO_278001.out) hb); have n2_ := Aside0.mk (Kd.R_below (by (with_reducible repeat (first | apply Kd.R_alloc)); exact HO_285000.out) hb); have n3_ := Aside0.mk (Kd.R_below (by (with_reducible repeat (first | apply Kd.R_alloc)); exact HO_285001.out) hb); have n4_ := Aside0.mk (Kd.R_below (by (with_reducible repeat (first | apply Kd.R_alloc)); exact HO_293000.out) hb); have n5_ := Aside0.mk (Kd.R_below (by (with_reducible repeat (first | apply Kd.R_alloc)); exact HO_293001.out) hb); have n6_ := Aside0.mk (blk_below (g := gb262) (o := .cells #[.slice A0_0 l0_0.length c0_0, .slice A0_1 l0_1.length c0_1] 30 (0, 0)) (by (with_reducible repeat (refine blk_alloc ?_ _)); exact BK262.out) hb); have n7_ := Aside0.mk (blk_below (g := gb277) (o := .cells #[.slice Ao21 t270.length co21, .slice Ao24 t273.length co24] 34 (0, 0)) (by (with_reducible repeat (refine blk_alloc ?_ _)); exact BK277.out) hb); have n8_ := Aside0.mk (blk_below (g := gb284) (o := .cells #[.slice Ao28 t302.length co28, .slice Ao32 t303.length co32] 34 (0, 0)) (by (with_reducible repeat (refine blk_alloc ?_ _)); exact BK284.out) hb); have n9_ := Aside0.mk (blk_below (g := gb292) (o := .cells #[.slice Ao35 t285.length co35, .slice Ao40 t288.length co40] 34 (0, 0)) (by (with_reducible repeat (refine blk_alloc ?_ _)); exact BK292.out) hb); have n10_ := Aside0.mk (below_step (by repeat (first | (with_reducible first | exact HB.out | apply below_alloc | refine below_set ?_ GE262.out | refine below_set ?_ GE277.out | refine below_set ?_ GE284.out | refine below_set ?_ GE292.out) | exact HB.out)) hb); clear HO_278000; clear HO_278001; clear HO_285000; clear HO_285001; clear HO_293000; clear HO_293001; clear BK262; clear BK277; clear BK284; clear BK292; clear HB; have HO_278000 := n0_; have HO_278001 := n1_; have HO_285000 := n2_; have HO_285001 := n3_; have HO_293000 := n4_; have HO_293001 := n5_; have BK262 := n6_; have BK277 := n7_; have BK284 := n8_; have BK292 := n9_; have HB := n10_; clear n0_ n1_ n2_ n3_ n4_ n5_ n6_ n7_ n8_ n9_ n10_; (try clear hb); (try clear hb2); (try clear hk); (try clear hi); have hnb116 := NB262_277.out; have hnc116 := NB277_262.out; have hnb117 := NB262_284.out; have hnc117 := NB284_262.out; have hcz118_0 : w115.cell? ⟨gb262, 0, none⟩ = some (.slice A0_0 l0_0.length c0_0) := (blk_cell BK262.out 0).trans rfl; have hcz118_1 : w115.cell? ⟨gb262, 1, none⟩ = some (.slice A0_1 l0_1.length c0_1) := (blk_cell BK262.out 1).trans rfl; have hfz118_0 := blk_frozen BK262.out 0; have hfz118_1 := blk_frozen BK262.out 1) | ((with_reducible refine gate_callee (f := 15) rfl ?_); refine goesL_ (some 75) rfl rfl Try.func15 (by kernel_rfl) rfl #[.agg #[.slice A0_0 l0_0.length c0_0, .slice A0_1 l0_1.length c0_1]] rfl (by (try simp only [List.map_toArray, List.map_cons, List.map_nil]); first | done | rfl | (simp only [List.length_drop, List.length_take]; rfl)) ?_; (with_reducible refine (laws_toDisk.calls kj63 _ _ l0_0 _ _ l0_1 t309 t312 _ ?side1 ?side2 ?side3 ?side4 A106.out).mono ?_); (case side1 => repeat (first | exact (Kd.C_below HR0_0.out HB.out) | (with_reducible refine Kd.C_alloc ?_ _))); (case side2 => exact HC0_0.out); (case side3 => repeat (first | exact (Kd.C_below HR0_1.out HB.out) | (with_reducible refine Kd.C_alloc ?_ _))); (case side4 => exact HC0_1.out); rintro e w119 ⟨v310, v313, rfl, ho0, ho1, hb⟩; refine ⟨_, rfl, ?_⟩; have n0_ := Aside0.mk (Kd.R_mono (Kd.R_told (Kd.R_told (Kd.R_old (by (with_reducible repeat (first | apply Kd.R_alloc)); exact HO_278000.out) hb) (Kd.R_base ho0)) (Kd.R_base ho1)) (fun _ h_ => h_.1)); have n1_ := Aside0.mk (Kd.R_mono (Kd.R_told (Kd.R_told (Kd.R_old (by (with_reducible repeat (first | apply Kd.R_alloc)); exact HO_278001.out) hb) (Kd.R_base ho0)) (Kd.R_base ho1)) (fun _ h_ => h_.1)); have n2_ := Aside0.mk (Kd.R_mono (Kd.R_told (Kd.R_told (Kd.R_old (by (with_reducible repeat (first | apply Kd.R_alloc)); exact HO_285000.out) hb) (Kd.R_base ho0)) (Kd.R_base ho1)) (fun _ h_ => h_.1)); have n3_ := Aside0.mk (Kd.R_mono (Kd.R_told (Kd.R_told (Kd.R_old (by (with_reducible repeat (first | apply Kd.R_alloc)); exact HO_285001.out) hb) (Kd.R_base ho0)) (Kd.R_base ho1)) (fun _ h_ => h_.1)); have n4_ := Aside0.mk (Kd.R_mono (Kd.R_told (Kd.R_told (Kd.R_old (by (with_reducible repeat (first | apply Kd.R_alloc)); exact HO_293000.out) hb) (Kd.R_base ho0)) (Kd.R_base ho1)) (fun _ h_ => h_.1)); have n5_ := Aside0.mk (Kd.R_mono (Kd.R_told (Kd.R_told (Kd.R_old (by (with_reducible repeat (first | apply Kd.R_alloc)); exact HO_293001.out) hb) (Kd.R_base ho0)) (Kd.R_base ho1)) (fun _ h_ => h_.1)); have n6_ := Aside0.mk (Kd.R_lower (Kd.R_new' (Kd.R_new' (Kd.R_new' (Kd.R_new' (Kd.R_new' (Kd.R_new' ho0 (Kd.R_lt (by (with_reducible repeat (first | apply Kd.R_alloc)); exact HO_278000.out))) (Kd.R_lt (by (with_reducible repeat (first | apply Kd.R_alloc)); exact HO_278001.out))) (Kd.R_lt (by (with_reducible repeat (first | apply Kd.R_alloc)); exact HO_285000.out))) (Kd.R_lt (by (with_reducible repeat (first | apply Kd.R_alloc)); exact HO_285001.out))) (Kd.R_lt (by (with_reducible repeat (first | apply Kd.R_alloc)); exact HO_293000.out))) (Kd.R_lt (by (with_reducible repeat (first | apply Kd.R_alloc)); exact HO_293001.out))) (below_size (by repeat (first | (with_reducible first | exact HB.out | apply below_alloc | refine below_set ?_ GE262.out | refine below_set ?_ GE277.out | refine below_set ?_ GE284.out | refine below_set ?_ GE292.out) | exact HB.out)))); have n7_ := Aside0.mk (Kd.R_lower (Kd.R_new' (Kd.R_new' (Kd.R_new' (Kd.R_new' (Kd.R_new' (Kd.R_new' ho1 (Kd.R_lt (by (with_reducible repeat (first | apply Kd.R_alloc)); exact HO_278000.out))) (Kd.R_lt (by (with_reducible repeat (first | apply Kd.R_alloc)); exact HO_278001.out))) (Kd.R_lt (by (with_reducible repeat (first | apply Kd.R_alloc)); exact HO_285000.out))) (Kd.R_lt (by (with_reducible repeat (first | apply Kd.R_alloc)); exact HO_285001.out))) (Kd.R_lt (by (with_reducible repeat (first | apply Kd.R_alloc)); exact HO_293000.out))) (Kd.R_lt (by (with_reducible repeat (first | apply Kd.R_alloc)); exact HO_293001.out))) (below_size (by repeat (first | (with_reducible first | exact HB.out | apply below_alloc | refine below_set ?_ GE262.out | refine below_set ?_ GE277.out | refine below_set ?_ GE284.out | refine below_set ?_ GE292.out) | exact HB.out)))); have n8_ := Aside0.mk (blk_below (g := gb262) (o := .cells #[.slice A0_0 l0_0.length c0_0, .slice A0_1 l0_1.length c0_1] 30 (0, 0)) (by (with_reducible repeat (refine blk_alloc ?_ _)); exact BK262.out) hb); have n9_ := Aside0.mk (blk_below (g := gb277) (o := .cells #[.slice Ao21 t270.length co21, .slice Ao24 t273.length co24] 34 (0, 0)) (by (with_reducible repeat (refine blk_alloc ?_ _)); exact BK277.out) hb); have n10_ := Aside0.mk (blk_below (g := gb284) (o := .cells #[.slice Ao28 t302.length co28, .slice Ao32 t303.length co32] 34 (0, 0)) (by (with_reducible repeat (refine blk_alloc ?_ _)); exact BK284.out) hb); have n11_ := Aside0.mk (blk_below (g := gb292) (o := .cells #[.slice Ao35 t285.length co35, .slice Ao40 t288.length co40] 34 (0, 0)) (by (with_reducible repeat (refine blk_alloc ?_ _)); exact BK292.out) hb); have n12_ := Aside0.mk (below_step (by repeat (first | (with_reducible first | exact HB.out | apply below_alloc | refine below_set ?_ GE262.out | refine below_set ?_ GE277.out | refine below_set ?_ GE284.out | refine below_set ?_ GE292.out) | exact HB.out)) hb); clear HO_278000; clear HO_278001; clear HO_285000; clear HO_285001; clear HO_293000; clear HO_293001; clear BK262; clear BK277; clear BK284; clear BK292; clear HB; have HO_278000 := n0_; have HO_278001 := n1_; have HO_285000 := n2_; have HO_285001 := n3_; have HO_293000 := n4_; have HO_293001 := n5_; have HO311 := n6_; have HO314 := n7_; have BK262 := n8_; have BK277 := n9_; have BK284 := n10_; have BK292 := n11_; have HB := n12_; clear n0_ n1_ n2_ n3_ n4_ n5_ n6_ n7_ n8_ n9_ n10_ n11_ n12_; (try clear hb); (try clear hb2); (try clear hk); (try clear hi); (try clear ho0); (try clear ho1); obtain ⟨Ao120, co120, eo120⟩ := Kd.R_slice HO311.out; subst eo120; obtain ⟨Ao121, co121, eo121⟩ := Kd.R_slice HO314.out; subst eo121) | ((with_reducible refine gate_callee (f := 23) rfl ?_); refine goesL_ (some 76) rfl rfl Try.func23 (by kernel_rfl) rfl #[.agg #[.slice Ao120 t309.length co120, .slice Ao121 t312.length co121]] rfl (by (try simp only [List.map_toArray, List.map_cons, List.map_nil]); first | done | rfl | (simp only [List.length_drop, List.length_take]; rfl)) ?_; (with_reducible refine (impl_MendDisk.calls kj63 _ _ t309 _ _ t312 t315 t318 t321 _ ?side1 ?side2 ?side3 ?side4 A107.out).mono ?_); (case side1 => repeat (first | exact (Kd.R_reads' HO311.out).2.2 | (with_reducible refine Kd.C_alloc ?_ _))); (case side2 => exact (Kd.R_reads' HO311.out).2.1); (case side3 => repeat (first | exact (Kd.R_reads' HO314.out).2.2 | (with_reducible refine Kd.C_alloc ?_ _))); (case side4 => exact (Kd.R_reads' HO314.out).2.1); rintro e w122 ⟨v316, v319, rfl, ho0, ho1, hb⟩; refine ⟨_, rfl, ?_⟩; have n0_ := Aside0.mk (Kd.R_mono (Kd.R_told (Kd.R_told (Kd.R_old (by (with_reducible repeat (first | apply Kd.R_alloc)); exact HO_278000.out) hb) (Kd.R_base ho0)) (Kd.R_base ho1)) (fun _ h_ => h_.1)); have n1_ := Aside0.mk (Kd.R_mono (Kd.R_told (Kd.R_told (Kd.R_old (by (with_reducible repeat (first | apply Kd.R_alloc)); exact HO_278001.out) hb) (Kd.R_base ho0)) (Kd.R_base ho1)) (fun _ h_ => h_.1)); have n2_ := Aside0.mk (Kd.R_mono (Kd.R_told (Kd.R_told (Kd.R_old (by (with_reducible repeat (first | apply Kd.R_alloc)); exact HO_285000.out) hb) (Kd.R_base ho0)) (Kd.R_base ho1)) (fun _ h_ => h_.1)); have n3_ := Aside0.mk (Kd.R_mono (Kd.R_told (Kd.R_told (Kd.R_old (by (with_reducible repeat (first | apply Kd.R_alloc)); exact HO_285001.out) hb) (Kd.R_base ho0)) (Kd.R_base ho1)) (fun _ h_ => h_.1)); have n4_ := Aside0.mk (Kd.R_mono (Kd.R_told (Kd.R_told (Kd.R_old (by (with_reducible repeat (first | apply Kd.R_alloc)); exact HO_293000.out) hb) (Kd.R_base ho0)) (Kd.R_base ho1)) (fun _ h_ => h_.1)); have n5_ := Aside0.mk (Kd.R_mono (Kd.R_told (Kd.R_told (Kd.R_old (by (with_reducible repeat (first | apply Kd.R_alloc)); exact HO_293001.out) hb) (Kd.R_base ho0)) (Kd.R_base ho1)) (fun _ h_ => h_.1)); have n6_ := Aside0.mk (Kd.R_mono (Kd.R_told (Kd.R_told (Kd.R_old (by (with_reducible repeat (first | apply Kd.R_alloc)); exact HO311.out) hb) (Kd.R_base ho0)) (Kd.R_base ho1)) (fun _ h_ => h_.1)); have n7_ := Aside0.mk (Kd.R_mono (Kd.R_told (Kd.R_told (Kd.R_old (by (with_reducible repeat (first | apply Kd.R_alloc)); exact HO314.out) hb) (Kd.R_base ho0)) (Kd.R_base ho1)) (fun _ h_ => h_.1)); have n8_ := Aside0.mk (Kd.R_lower (Kd.R_new' (Kd.R_new' (Kd.R_new' (Kd.R_new' (Kd.R_new' (Kd.R_new' (Kd.R_new' (Kd.R_new' ho0 (Kd.R_lt (by (with_reducible repeat (first | apply Kd.R_alloc)); exact HO_278000.out))) (Kd.R_lt (by (with_reducible repeat (first | apply Kd.R_alloc)); exact HO_278001.out))) (Kd.R_lt (by (with_reducible repeat (first | apply Kd.R_alloc)); exact HO_285000.out))) (Kd.R_lt (by (with_reducible repeat (first | apply Kd.R_alloc)); exact HO_285001.out))) (Kd.R_lt (by (with_reducible repeat (first | apply Kd.R_alloc)); exact HO_293000.out))) (Kd.R_lt (by (with_reducible repeat (first | apply Kd.R_alloc)); exact HO_293001.out))) (Kd.R_lt (by (with_reducible repeat (first | apply Kd.R_alloc)); exact HO311.out))) (Kd.R_lt (by (with_reducible repeat (first | apply Kd.R_alloc)); exact HO314.out))) (below_size (by repeat (first | (with_reducible first | exact HB.out | apply below_alloc | refine below_set ?_ GE262.out | refine below_set ?_ GE277.out | refine below_set ?_ GE284.out | refine below_set ?_ GE292.out) | exact HB.out)))); have n9_ := Aside0.mk (Kd.R_lower (Kd.R_new' (Kd.R_new' (Kd.R_new' (Kd.R_new' (Kd.R_new' (Kd.R_new' (Kd.R_new' (Kd.R_new' ho1 (Kd.R_lt (by (with_reducible repeat (first | apply Kd.R_alloc)); exact HO_278000.out))) (Kd.R_lt (by (with_reducible repeat (first | apply Kd.R_alloc)); exact HO_278001.out))) (Kd.R_lt (by (with_reducible repeat (first | apply Kd.R_alloc)); exact HO_285000.out))) (Kd.R_lt (by (with_reducible repeat (first | apply Kd.R_alloc)); exact HO_285001.out))) (Kd.R_lt (by (with_reducible repeat (first | apply Kd.R_alloc)); exact HO_293000.out))) (Kd.R_lt (by (with_reducible repeat (first | apply Kd.R_alloc)); exact HO_293001.out))) (Kd.R_lt (by (with_reducible repeat (first | apply Kd.R_alloc)); exact HO311.out))) (Kd.R_lt (by (with_reducible repeat (first | apply Kd.R_alloc)); exact HO314.out))) (below_size (by repeat (first | (with_reducible first | exact HB.out | apply below_alloc | refine below_set ?_ GE262.out | refine below_set ?_ GE277.out | refine below_set ?_ GE284.out | refine below_set ?_ GE292.out) | exact HB.out)))); have n10_ := Aside0.mk (blk_below (g := gb262) (o := .cells #[.slice A0_0 l0_0.length c0_0, .slice A0_1 l0_1.length c0_1] 30 (0, 0)) (by (with_reducible repeat (refine blk_alloc ?_ _)); exact BK262.out) hb); have n11_ := Aside0.mk (blk_below (g := gb277) (o := .cells #[.slice Ao21 t270.length co21, .slice Ao24 t273.length co24] 34 (0, 0)) (by (with_reducible repeat (refine blk_alloc ?_ _)); exact BK277.out) hb); have n12_ := Aside0.mk (blk_below (g := gb284) (o := .cells #[.slice Ao28 t302.length co28, .slice Ao32 t303.length co32] 34 (0, 0)) (by (with_reducible repeat (refine blk_alloc ?_ _)); exact BK284.out) hb); have n13_ := Aside0.mk (blk_below (g := gb292) (o := .cells #[.slice Ao35 t285.length co35, .slice Ao40 t288.length co40] 34 (0, 0)) (by (with_reducible repeat (refine blk_alloc ?_ _)); exact BK292.out) hb); have n14_ := Aside0.mk (below_step (by repeat (first | (with_reducible first | exact HB.out | apply below_alloc | refine below_set ?_ GE262.out | refine below_set ?_ GE277.out | refine below_set ?_ GE284.out | refine below_set ?_ GE292.out) | exact HB.out)) hb); clear HO_278000; clear HO_278001; clear HO_285000; clear HO_285001; clear HO_293000; clear HO_293001; clear HO311; clear HO314; clear BK262; clear BK277; clear BK284; clear BK292; clear HB; have HO_278000 := n0_; have HO_278001 := n1_; have HO_285000 := n2_; have HO_285001 := n3_; have HO_293000 := n4_; have HO_293001 := n5_; have HO311 := n6_; have HO314 := n7_; have HO317 := n8_; have HO320 := n9_; have BK262 := n10_; have BK277 := n11_; have BK284 := n12_; have BK292 := n13_; have HB := n14_; clear n0_ n1_ n2_ n3_ n4_ n5_ n6_ n7_ n8_ n9_ n10_ n11_ n12_ n13_ n14_; (try clear hb); (try clear hb2); (try clear hk); (try clear hi); (try clear ho0); (try clear ho1)) | ((with_reducible refine gate_dst (N := 12) rfl ?_); refine box_event ?hg (N := 12) ?hd (cs := #[.slice none 0 0, .slice none 0 0]) (t := 34) ?hr ?_; (case hd => rfl); (case hg => rfl); (case hr => first | (go_simp; done) | (go_simp; simp only [IntKind.wrap_u8]; done) | (go_simp; rfl)); intro gb322 hg w123 hbox hb; have n0_ := Aside0.mk (Kd.R_below (by (with_reducible repeat (first | apply Kd.R_alloc)); exact HO_278000.out) hb); have n1_ := Aside0.mk (Kd.R_below (by (with_reducible repeat (first | apply Kd.R_alloc)); exact HO_278001.out) hb); have n2_ := Aside0.mk (Kd.R_below (by (with_reducible repeat (first | apply Kd.R_alloc)); exact HO_285000.out) hb); have n3_ := Aside0.mk (Kd.R_below (by (with_reducible repeat (first | apply Kd.R_alloc)); exact HO_285001.out) hb); have n4_ := Aside0.mk (Kd.R_below (by (with_reducible repeat (first | apply Kd.R_alloc)); exact HO_293000.out) hb); have n5_ := Aside0.mk (Kd.R_below (by (with_reducible repeat (first | apply Kd.R_alloc)); exact HO_293001.out) hb); have n6_ := Aside0.mk (Kd.R_below (by (with_reducible repeat (first | apply Kd.R_alloc)); exact HO311.out) hb); have n7_ := Aside0.mk (Kd.R_below (by (with_reducible repeat (first | apply Kd.R_alloc)); exact HO314.out) hb); have n8_ := Aside0.mk (Kd.R_below (by (with_reducible repeat (first | apply Kd.R_alloc)); exact HO317.out) hb); have n9_ := Aside0.mk (Kd.R_below (by (with_reducible repeat (first | apply Kd.R_alloc)); exact HO320.out) hb); have n10_ := Aside0.mk (blk_below (g := gb262) (o := .cells #[.slice A0_0 l0_0.length c0_0, .slice A0_1 l0_1.length c0_1] 30 (0, 0)) (by (with_reducible repeat (refine blk_alloc ?_ _)); exact BK262.out) hb); have n11_ := Aside0.mk (blk_below (g := gb277) (o := .cells #[.slice Ao21 t270.length co21, .slice Ao24 t273.length co24] 34 (0, 0)) (by (with_reducible repeat (refine blk_alloc ?_ _)); exact BK277.out) hb); have n12_ := Aside0.mk (blk_below (g := gb284) (o := .cells #[.slice Ao28 t302.length co28, .slice Ao32 t303.length co32] 34 (0, 0)) (by (with_reducible repeat (refine blk_alloc ?_ _)); exact BK284.out) hb); have n13_ := Aside0.mk (blk_below (g := gb292) (o := .cells #[.slice Ao35 t285.length co35, .slice Ao40 t288.length co40] 34 (0, 0)) (by (with_reducible repeat (refine blk_alloc ?_ _)); exact BK292.out) hb); have n14_ := Aside0.mk (below_step (by repeat (first | (with_reducible first | exact HB.out | apply below_alloc | refine below_set ?_ GE262.out | refine below_set ?_ GE277.out | refine below_set ?_ GE284.out | refine below_set ?_ GE292.out) | exact HB.out)) hb); have n15_ := Aside0.mk (hbox); have n16_ := Aside0.mk ((by rw [hg]; exact (below_size (by repeat (first | (with_reducible first | exact HB.out | apply below_alloc | refine below_set ?_ GE262.out | refine below_set ?_ GE277.out | refine below_set ?_ GE284.out | refine below_set ?_ GE292.out) | exact HB.out))) : w.heap.size ≤ gb322)); have n17_ := Aside0.mk ((by rw [hg]; exact (below_size (by repeat (first | (with_reducible first | exact HB.out | apply below_alloc | refine below_set ?_ GE262.out | refine below_set ?_ GE277.out | refine below_set ?_ GE284.out | refine below_set ?_ GE292.out) | exact HB.out))) : w.heap.size ≤ gb322)); have n18_ := Aside0.mk ((by rw [hg]; exact Nat.ne_of_lt (blk_lt (g := gb262) (o := .cells #[.slice A0_0 l0_0.length c0_0, .slice A0_1 l0_1.length c0_1] 30 (0, 0)) (by (with_reducible repeat (refine blk_alloc ?_ _)); exact BK262.out)) : gb262 ≠ gb322)); have n19_ := Aside0.mk ((by rw [hg]; exact Nat.ne_of_gt (blk_lt (g := gb262) (o := .cells #[.slice A0_0 l0_0.length c0_0, .slice A0_1 l0_1.length c0_1] 30 (0, 0)) (by (with_reducible repeat (refine blk_alloc ?_ _)); exact BK262.out)) : gb322 ≠ gb262)); have n20_ := Aside0.mk ((by rw [hg]; exact Nat.ne_of_lt (blk_lt (g := gb277) (o := .cells #[.slice Ao21 t270.length co21, .slice Ao24 t273.length co24] 34 (0, 0)) (by (with_reducible repeat (refine blk_alloc ?_ _)); exact BK277.out)) : gb277 ≠ gb322)); have n21_ := Aside0.mk ((by rw [hg]; exact Nat.ne_of_gt (blk_lt (g := gb277) (o := .cells #[.slice Ao21 t270.length co21, .slice Ao24 t273.length co24] 34 (0, 0)) (by (with_reducible repeat (refine blk_alloc ?_ _)); exact BK277.out)) : gb322 ≠ gb277)); have n22_ := Aside0.mk ((by rw [hg]; exact Nat.ne_of_lt (blk_lt (g := gb284) (o := .cells #[.slice Ao28 t302.length co28, .slice Ao32 t303.length co32] 34 (0, 0)) (by (with_reducible repeat (refine blk_alloc ?_ _)); exact BK284.out)) : gb284 ≠ gb322)); have n23_ := Aside0.mk ((by rw [hg]; exact Nat.ne_of_gt (blk_lt (g := gb284) (o := .cells #[.slice Ao28 t302.length co28, .slice Ao32 t303.length co32] 34 (0, 0)) (by (with_reducible repeat (refine blk_alloc ?_ _)); exact BK284.out)) : gb322 ≠ gb284)); have n24_ := Aside0.mk ((by rw [hg]; exact Nat.ne_of_lt (blk_lt (g := gb292) (o := .cells #[.slice Ao35 t285.length co35, .slice Ao40 t288.length co40] 34 (0, 0)) (by (with_reducible repeat (refine blk_alloc ?_ _)); exact BK292.out)) : gb292 ≠ gb322)); have n25_ := Aside0.mk ((by rw [hg]; exact Nat.ne_of_gt (blk_lt (g := gb292) (o := .cells #[.slice Ao35 t285.length co35, .slice Ao40 t288.length co40] 34 (0, 0)) (by (with_reducible repeat (refine blk_alloc ?_ _)); exact BK292.out)) : gb322 ≠ gb292)); clear HO_278000; clear HO_278001; clear HO_285000; clear HO_285001; clear HO_293000; clear HO_293001; clear HO311; clear HO314; clear HO317; clear HO320; clear BK262; clear BK277; clear BK284; clear BK292; clear HB; have HO_278000 := n0_; have HO_278001 := n1_; have HO_285000 := n2_; have HO_285001 := n3_; have HO_293000 := n4_; have HO_293001 := n5_; have HO311 := n6_; have HO314 := n7_; have HO317 := n8_; have HO320 := n9_; have BK262 := n10_; have BK277 := n11_; have BK284 := n12_; have BK292 := n13_; have HB := n14_; have BK322 := n15_; have GW322 := n16_; have GE322 := n17_; have NB262_322 := n18_; have NB322_262 := n19_; have NB277_322 := n20_; have NB322_277 := n21_; have NB284_322 := n22_; have NB322_284 := n23_; have NB292_322 := n24_; have NB322_292 := n25_; clear n0_ n1_ n2_ n3_ n4_ n5_ n6_ n7_ n8_ n9_ n10_ n11_ n12_ n13_ n14_ n15_ n16_ n17_ n18_ n19_ n20_ n21_ n22_ n23_ n24_ n25_; clear hb hbox hg; obtain ⟨Ao124, co124, eo124⟩ := Kd.R_slice HO317.out; subst eo124; have hnb125 := NB322_262.out; have hnc125 := NB262_322.out; have hnb126 := NB322_277.out; have hnc126 := NB277_322.out; have hnb127 := NB322_284.out; have hnc127 := NB284_322.out; have hnb128 := NB322_292.out; have hnc128 := NB292_322.out; have hcz129_0 : w123.cell? ⟨gb322, 0, none⟩ = some (.slice none 0 0) := (blk_cell BK322.out 0).trans rfl; have hcz129_1 : w123.cell? ⟨gb322, 1, none⟩ = some (.slice none 0 0) := (blk_cell BK322.out 1).trans rfl; have hfz129_0 := blk_frozen BK322.out 0; have hfz129_1 := blk_frozen BK322.out 1; obtain ⟨Ao130, co130, eo130⟩ := Kd.R_slice HO320.out; subst eo130))
                      (try simp only [Act.put, List.setIfInBounds_toArray, List.set_cons_zero, List.set_cons_succ])
                      go_cut [87] (fun v87 wc => ∃ (kq : Nat) (x87_107 : Bool), v87 = .bool x87_107 ∧ Aside0 (laws_FnExactMendDisk.j2 kq t305 x87_107 t306 t307 = some r) ∧ Aside0 (kq ≤ kj63) ∧ Aside0 (Kd.R Kd.string 9 wc w.heap.size (fun k_ => some k_ ≠ ((.slice Ao24 t273.length co24) : Value).ownBlock ∧ some k_ ≠ ((.slice Ao28 t302.length co28) : Value).ownBlock ∧ some k_ ≠ ((.slice Ao32 t303.length co32) : Value).ownBlock ∧ some k_ ≠ ((.slice Ao35 t285.length co35) : Value).ownBlock ∧ some k_ ≠ ((.slice Ao40 t288.length co40) : Value).ownBlock ∧ some k_ ≠ ((.slice Ao124 t315.length co124) : Value).ownBlock ∧ some k_ ≠ ((.slice Ao130 t318.length co130) : Value).ownBlock) (.slice Ao21 t270.length co21) t270) ∧ Aside0 (Kd.R Kd.string 9 wc w.heap.size (fun k_ => some k_ ≠ ((.slice Ao21 t270.length co21) : Value).ownBlock ∧ some k_ ≠ ((.slice Ao28 t302.length co28) : Value).ownBlock ∧ some k_ ≠ ((.slice Ao32 t303.length co32) : Value).ownBlock ∧ some k_ ≠ ((.slice Ao35 t285.length co35) : Value).ownBlock ∧ some k_ ≠ ((.slice Ao40 t288.length co40) : Value).ownBlock ∧ some k_ ≠ ((.slice Ao124 t315.length co124) : Value).ownBlock ∧ some k_ ≠ ((.slice Ao130 t318.length co130) : Value).ownBlock) (.slice Ao24 t273.length co24) t273) ∧ Aside0 (Kd.R Kd.string 9 wc w.heap.size (fun k_ => some k_ ≠ ((.slice Ao21 t270.length co21) : Value).ownBlock ∧ some k_ ≠ ((.slice Ao24 t273.length co24) : Value).ownBlock ∧ some k_ ≠ ((.slice Ao32 t303.length co32) : Value).ownBlock ∧ some k_ ≠ ((.slice Ao35 t285.length co35) : Value).ownBlock ∧ some k_ ≠ ((.slice Ao40 t288.length co40) : Value).ownBlock ∧ some k_ ≠ ((.slice Ao124 t315.length co124) : Value).ownBlock ∧ some k_ ≠ ((.slice Ao130 t318.length co130) : Value).ownBlock) (.slice Ao28 t302.length co28) t302) ∧ Aside0 (Kd.R Kd.string 9 wc w.heap.size (fun k_ => some k_ ≠ ((.slice Ao21 t270.length co21) : Value).ownBlock ∧ some k_ ≠ ((.slice Ao24 t273.length co24) : Value).ownBlock ∧ some k_ ≠ ((.slice Ao28 t302.length co28) : Value).ownBlock ∧ some k_ ≠ ((.slice Ao35 t285.length co35) : Value).ownBlock ∧ some k_ ≠ ((.slice Ao40 t288.length co40) : Value).ownBlock ∧ some k_ ≠ ((.slice Ao124 t315.length co124) : Value).ownBlock ∧ some k_ ≠ ((.slice Ao130 t318.length co130) : Value).ownBlock) (.slice Ao32 t303.length co32) t303) ∧ Aside0 (Kd.R Kd.string 9 wc w.heap.size (fun k_ => some k_ ≠ ((.slice Ao21 t270.length co21) : Value).ownBlock ∧ some k_ ≠ ((.slice Ao24 t273.length co24) : Value).ownBlock ∧ some k_ ≠ ((.slice Ao28 t302.length co28) : Value).ownBlock ∧ some k_ ≠ ((.slice Ao32 t303.length co32) : Value).ownBlock ∧ some k_ ≠ ((.slice Ao40 t288.length co40) : Value).ownBlock ∧ some k_ ≠ ((.slice Ao124 t315.length co124) : Value).ownBlock ∧ some k_ ≠ ((.slice Ao130 t318.length co130) : Value).ownBlock) (.slice Ao35 t285.length co35) t306) ∧ Aside0 (Kd.R Kd.string 9 wc w.heap.size (fun k_ => some k_ ≠ ((.slice Ao21 t270.length co21) : Value).ownBlock ∧ some k_ ≠ ((.slice Ao24 t273.length co24) : Value).ownBlock ∧ some k_ ≠ ((.slice Ao28 t302.length co28) : Value).ownBlock ∧ some k_ ≠ ((.slice Ao32 t303.length co32) : Value).ownBlock ∧ some k_ ≠ ((.slice Ao35 t285.length co35) : Value).ownBlock ∧ some k_ ≠ ((.slice Ao124 t315.length co124) : Value).ownBlock ∧ some k_ ≠ ((.slice Ao130 t318.length co130) : Value).ownBlock) (.slice Ao40 t288.length co40) t307) ∧ Aside0 (Kd.R Kd.string 9 wc w.heap.size (fun k_ => some k_ ≠ ((.slice Ao21 t270.length co21) : Value).ownBlock ∧ some k_ ≠ ((.slice Ao24 t273.length co24) : Value).ownBlock ∧ some k_ ≠ ((.slice Ao28 t302.length co28) : Value).ownBlock ∧ some k_ ≠ ((.slice Ao32 t303.length co32) : Value).ownBlock ∧ some k_ ≠ ((.slice Ao35 t285.length co35) : Value).ownBlock ∧ some k_ ≠ ((.slice Ao40 t288.length co40) : Value).ownBlock ∧ some k_ ≠ ((.slice Ao130 t318.length co130) : Value).ownBlock) (.slice Ao124 t315.length co124) t315) ∧ Aside0 (Kd.R Kd.string 9 wc w.heap.size (fun k_ => some k_ ≠ ((.slice Ao21 t270.length co21) : Value).ownBlock ∧ some k_ ≠ ((.slice Ao24 t273.length co24) : Value).ownBlock ∧ some k_ ≠ ((.slice Ao28 t302.length co28) : Value).ownBlock ∧ some k_ ≠ ((.slice Ao32 t303.length co32) : Value).ownBlock ∧ some k_ ≠ ((.slice Ao35 t285.length co35) : Value).ownBlock ∧ some k_ ≠ ((.slice Ao40 t288.length co40) : Value).ownBlock ∧ some k_ ≠ ((.slice Ao124 t315.length co124) : Value).ownBlock) (.slice Ao130 t318.length co130) t318) ∧ Aside0 (wc.heap[gb262]? = some (.cells #[(.slice A0_0 l0_0.length c0_0), (.slice A0_1 l0_1.length c0_1)] 30 (0, 0))) ∧ Aside0 (wc.heap[gb277]? = some (.cells #[(.slice Ao21 t270.length co21), (.slice Ao24 t273.length co24)] 34 (0, 0))) ∧ Aside0 (wc.heap[gb284]? = some (.cells #[(.slice Ao28 t302.length co28), (.slice Ao32 t303.length co32)] 34 (0, 0))) ∧ Aside0 (wc.heap[gb292]? = some (.cells #[(.slice Ao35 t285.length co35), (.slice Ao40 t288.length co40)] 34 (0, 0))) ∧ Aside0 (wc.heap[gb322]? = some (.cells #[(.slice Ao124 t315.length co124), (.slice Ao130 t318.length co130)] 34 (0, 0))) ∧ Aside0 (Below w.heap.size w wc))
                      case first =>
                        have H := HC108.out
                        clear HC108
                        replace H := Option.bind_eq_some_iff.mp H
                        obtain ⟨t323, A1310, H⟩ := H
                        replace H : (if t323 = true then (laws_FnExactMendDisk.j2 kj63 t305 (t321 != t276) t306 t307) else (laws_FnExactMendDisk.j2 kj63 t305 true t306 t307)) = some r := H
                        have A131 := Aside0.mk A1310
                        clear A1310
                        by_cases c132 : t323 = true
                        · subst c132
                          have H1 : (laws_FnExactMendDisk.j2 kj63 t305 (t321 != t276) t306 t307) = some r := by rw [if_pos rfl] at H; exact H
                          clear H
                          have H := H1
                          clear H1
                          have H' := Aside0.mk H
                          clear H
                          have hnb133 := NB322_262.out
                          have hnc133 := NB262_322.out
                          have hnb134 := NB322_277.out
                          have hnc134 := NB277_322.out
                          have hnb135 := NB322_284.out
                          have hnc135 := NB284_322.out
                          have hnb136 := NB322_292.out
                          have hnc136 := NB292_322.out
                          have hcz137_0 : w123.cell? ⟨gb322, 0, none⟩ = some (.slice none 0 0) := (blk_cell BK322.out 0).trans rfl
                          have hcz137_1 : w123.cell? ⟨gb322, 1, none⟩ = some (.slice none 0 0) := (blk_cell BK322.out 1).trans rfl
                          have hfz137_0 := blk_frozen BK322.out 0
                          have hfz137_1 := blk_frozen BK322.out 1
                          have hnb138 := NB277_262.out
                          have hnc138 := NB262_277.out
                          have hnb139 := NB277_284.out
                          have hnc139 := NB284_277.out
                          have hnb140 := NB277_292.out
                          have hnc140 := NB292_277.out
                          have hcz141_0 : w123.cell? ⟨gb277, 0, none⟩ = some (.slice Ao21 t270.length co21) := (blk_cell BK277.out 0).trans rfl
                          have hcz141_1 : w123.cell? ⟨gb277, 1, none⟩ = some (.slice Ao24 t273.length co24) := (blk_cell BK277.out 1).trans rfl
                          have hfz141_0 := blk_frozen BK277.out 0
                          have hfz141_1 := blk_frozen BK277.out 1
                          go_wp2_with (first | ((with_reducible refine gate_callee (f := 18) rfl ?_); refine goesL_ (some 81) rfl rfl Try.func18 (by kernel_rfl) rfl #[.agg #[.slice Ao124 t315.length co124, .slice Ao130 t318.length co130], .agg #[.slice Ao21 t270.length co21, .slice Ao24 t273.length co24]] rfl (by (try simp only [List.map_toArray, List.map_cons, List.map_nil]); first | done | rfl | (simp only [List.length_drop, List.length_take]; rfl)) ?_; (with_reducible refine (laws_eqDisk.calls kj63 _ _ t315 _ _ t318 _ _ t270 _ _ t273 true _ ?side1 ?side2 ?side3 ?side4 ?side5 ?side6 ?side7 ?side8 A131.out).mono ?_); (case side1 => refine (Kd.R_reads' (e := 9) (base := w.heap.size) (ok := fun k_ => ((((((((some k_ ≠ (.slice Ao130 t318.length co130 : Value).ownBlock ∧ some k_ ≠ (.slice Ao21 t270.length co21 : Value).ownBlock) ∧ some k_ ≠ (.slice Ao24 t273.length co24 : Value).ownBlock) ∧ some k_ ≠ (.slice Ao28 t302.length co28 : Value).ownBlock) ∧ some k_ ≠ (.slice Ao32 t303.length co32 : Value).ownBlock) ∧ some k_ ≠ (.slice Ao35 t285.length co35 : Value).ownBlock) ∧ some k_ ≠ (.slice Ao40 t288.length co40 : Value).ownBlock) ∧ some k_ ≠ (.slice Ao120 t309.length co120 : Value).ownBlock) ∧ some k_ ≠ (.slice Ao121 t312.length co121 : Value).ownBlock)) (n := t315.length) (c := co124) ?_).2.2; exact (by (with_reducible repeat (first | apply Kd.R_alloc)); exact (Kd.R_mono (Kd.R_far (p := ⟨gb322, 1, none⟩) (Kd.R_far (p := ⟨gb322, 0, none⟩) (Kd.R_types HO317.out BK322.out (by decide)) (fun _ hk => hk.2) (.slice Ao124 t315.length co124)) (fun _ hk => hk.2) (.slice Ao130 t318.length co130)) (fun _ h_ => h_.1)))); (case side2 => exact (Kd.R_reads' HO317.out).2.1); (case side3 => refine (Kd.R_reads' (e := 9) (base := w.heap.size) (ok := fun k_ => ((((((((some k_ ≠ (.slice Ao124 t315.length co124 : Value).ownBlock ∧ some k_ ≠ (.slice Ao21 t270.length co21 : Value).ownBlock) ∧ some k_ ≠ (.slice Ao24 t273.length co24 : Value).ownBlock) ∧ some k_ ≠ (.slice Ao28 t302.length co28 : Value).ownBlock) ∧ some k_ ≠ (.slice Ao32 t303.length co32 : Value).ownBlock) ∧ some k_ ≠ (.slice Ao35 t285.length co35 : Value).ownBlock) ∧ some k_ ≠ (.slice Ao40 t288.length co40 : Value).ownBlock) ∧ some k_ ≠ (.slice Ao120 t309.length co120 : Value).ownBlock) ∧ some k_ ≠ (.slice Ao121 t312.length co121 : Value).ownBlock)) (n := t318.length) (c := co130) ?_).2.2; exact (by (with_reducible repeat (first | apply Kd.R_alloc)); exact (Kd.R_mono (Kd.R_far (p := ⟨gb322, 1, none⟩) (Kd.R_far (p := ⟨gb322, 0, none⟩) (Kd.R_types HO320.out BK322.out (by decide)) (fun _ hk => hk.2) (.slice Ao124 t315.length co124)) (fun _ hk => hk.2) (.slice Ao130 t318.length co130)) (fun _ h_ => h_.1)))); (case side4 => exact (Kd.R_reads' HO320.out).2.1); (case side5 => refine (Kd.R_reads' (e := 9) (base := w.heap.size) (ok := fun k_ => (((((some k_ ≠ (.slice Ao24 t273.length co24 : Value).ownBlock ∧ (some k_ ≠ (.slice Ao28 t302.length co28 : Value).ownBlock ∧ (some k_ ≠ (.slice Ao32 t303.length co32 : Value).ownBlock ∧ (some k_ ≠ (.slice Ao35 t285.length co35 : Value).ownBlock ∧ some k_ ≠ (.slice Ao40 t288.length co40 : Value).ownBlock)))) ∧ some k_ ≠ (.slice Ao120 t309.length co120 : Value).ownBlock) ∧ some k_ ≠ (.slice Ao121 t312.length co121 : Value).ownBlock) ∧ some k_ ≠ (.slice Ao124 t315.length co124 : Value).ownBlock) ∧ some k_ ≠ (.slice Ao130 t318.length co130 : Value).ownBlock)) (n := t270.length) (c := co21) ?_).2.2; exact (by (with_reducible repeat (first | apply Kd.R_alloc)); exact (Kd.R_mono (Kd.R_far (p := ⟨gb322, 1, none⟩) (Kd.R_far (p := ⟨gb322, 0, none⟩) (Kd.R_types HO_278000.out BK322.out (by decide)) (fun _ hk => hk.2) (.slice Ao124 t315.length co124)) (fun _ hk => hk.2) (.slice Ao130 t318.length co130)) (fun _ h_ => h_.1)))); (case side6 => exact (Kd.R_reads' HO_278000.out).2.1); (case side7 => refine (Kd.R_reads' (e := 9) (base := w.heap.size) (ok := fun k_ => (((((some k_ ≠ (.slice Ao21 t270.length co21 : Value).ownBlock ∧ (some k_ ≠ (.slice Ao28 t302.length co28 : Value).ownBlock ∧ (some k_ ≠ (.slice Ao32 t303.length co32 : Value).ownBlock ∧ (some k_ ≠ (.slice Ao35 t285.length co35 : Value).ownBlock ∧ some k_ ≠ (.slice Ao40 t288.length co40 : Value).ownBlock)))) ∧ some k_ ≠ (.slice Ao120 t309.length co120 : Value).ownBlock) ∧ some k_ ≠ (.slice Ao121 t312.length co121 : Value).ownBlock) ∧ some k_ ≠ (.slice Ao124 t315.length co124 : Value).ownBlock) ∧ some k_ ≠ (.slice Ao130 t318.length co130 : Value).ownBlock)) (n := t273.length) (c := co24) ?_).2.2; exact (by (with_reducible repeat (first | apply Kd.R_alloc)); exact (Kd.R_mono (Kd.R_far (p := ⟨gb322, 1, none⟩) (Kd.R_far (p := ⟨gb322, 0, none⟩) (Kd.R_types HO_278001.out BK322.out (by decide)) (fun _ hk => hk.2) (.slice Ao124 t315.length co124)) (fun _ hk => hk.2) (.slice Ao130 t318.length co130)) (fun _ h_ => h_.1)))); (case side8 => exact (Kd.R_reads' HO_278001.out).2.1); rintro e w142 ⟨rfl, hb⟩; refine ⟨_, rfl, ?_⟩; have n0_ := Aside0.mk (Kd.R_below (by (with_reducible repeat (first | apply Kd.R_alloc)); exact (Kd.R_mono (Kd.R_far (p := ⟨gb322, 1, none⟩) (Kd.R_far (p := ⟨gb322, 0, none⟩) (Kd.R_types HO_278000.out BK322.out (by decide)) (fun _ hk => hk.2) (.slice Ao124 t315.length co124)) (fun _ hk => hk.2) (.slice Ao130 t318.length co130)) (fun _ h_ => h_.1))) hb); have n1_ := Aside0.mk (Kd.R_below (by (with_reducible repeat (first | apply Kd.R_alloc)); exact (Kd.R_mono (Kd.R_far (p := ⟨gb322, 1, none⟩) (Kd.R_far (p := ⟨gb322, 0, none⟩) (Kd.R_types HO_278001.out BK322.out (by decide)) (fun _ hk => hk.2) (.slice Ao124 t315.length co124)) (fun _ hk => hk.2) (.slice Ao130 t318.length co130)) (fun _ h_ => h_.1))) hb); have n2_ := Aside0.mk (Kd.R_below (by (with_reducible repeat (first | apply Kd.R_alloc)); exact (Kd.R_mono (Kd.R_far (p := ⟨gb322, 1, none⟩) (Kd.R_far (p := ⟨gb322, 0, none⟩) (Kd.R_types HO_285000.out BK322.out (by decide)) (fun _ hk => hk.2) (.slice Ao124 t315.length co124)) (fun _ hk => hk.2) (.slice Ao130 t318.length co130)) (fun _ h_ => h_.1))) hb); have n3_ := Aside0.mk (Kd.R_below (by (with_reducible repeat (first | apply Kd.R_alloc)); exact (Kd.R_mono (Kd.R_far (p := ⟨gb322, 1, none⟩) (Kd.R_far (p := ⟨gb322, 0, none⟩) (Kd.R_types HO_285001.out BK322.out (by decide)) (fun _ hk => hk.2) (.slice Ao124 t315.length co124)) (fun _ hk => hk.2) (.slice Ao130 t318.length co130)) (fun _ h_ => h_.1))) hb); have n4_ := Aside0.mk (Kd.R_below (by (with_reducible repeat (first | apply Kd.R_alloc)); exact (Kd.R_mono (Kd.R_far (p := ⟨gb322, 1, none⟩) (Kd.R_far (p := ⟨gb322, 0, none⟩) (Kd.R_types HO_293000.out BK322.out (by decide)) (fun _ hk => hk.2) (.slice Ao124 t315.length co124)) (fun _ hk => hk.2) (.slice Ao130 t318.length co130)) (fun _ h_ => h_.1))) hb); have n5_ := Aside0.mk (Kd.R_below (by (with_reducible repeat (first | apply Kd.R_alloc)); exact (Kd.R_mono (Kd.R_far (p := ⟨gb322, 1, none⟩) (Kd.R_far (p := ⟨gb322, 0, none⟩) (Kd.R_types HO_293001.out BK322.out (by decide)) (fun _ hk => hk.2) (.slice Ao124 t315.length co124)) (fun _ hk => hk.2) (.slice Ao130 t318.length co130)) (fun _ h_ => h_.1))) hb); have n6_ := Aside0.mk (Kd.R_below (by (with_reducible repeat (first | apply Kd.R_alloc)); exact (Kd.R_mono (Kd.R_far (p := ⟨gb322, 1, none⟩) (Kd.R_far (p := ⟨gb322, 0, none⟩) (Kd.R_types HO311.out BK322.out (by decide)) (fun _ hk => hk.2) (.slice Ao124 t315.length co124)) (fun _ hk => hk.2) (.slice Ao130 t318.length co130)) (fun _ h_ => h_.1))) hb); have n7_ := Aside0.mk (Kd.R_below (by (with_reducible repeat (first | apply Kd.R_alloc)); exact (Kd.R_mono (Kd.R_far (p := ⟨gb322, 1, none⟩) (Kd.R_far (p := ⟨gb322, 0, none⟩) (Kd.R_types HO314.out BK322.out (by decide)) (fun _ hk => hk.2) (.slice Ao124 t315.length co124)) (fun _ hk => hk.2) (.slice Ao130 t318.length co130)) (fun _ h_ => h_.1))) hb); have n8_ := Aside0.mk (Kd.R_below (by (with_reducible repeat (first | apply Kd.R_alloc)); exact (Kd.R_mono (Kd.R_far (p := ⟨gb322, 1, none⟩) (Kd.R_far (p := ⟨gb322, 0, none⟩) (Kd.R_types HO317.out BK322.out (by decide)) (fun _ hk => hk.2) (.slice Ao124 t315.length co124)) (fun _ hk => hk.2) (.slice Ao130 t318.length co130)) (fun _ h_ => h_.1))) hb); have n9_ := Aside0.mk (Kd.R_below (by (with_reducible repeat (first | apply Kd.R_alloc)); exact (Kd.R_mono (Kd.R_far (p := ⟨gb322, 1, none⟩) (Kd.R_far (p := ⟨gb322, 0, none⟩) (Kd.R_types HO320.out BK322.out (by decide)) (fun _ hk => hk.2) (.slice Ao124 t315.length co124)) (fun _ hk => hk.2) (.slice Ao130 t318.length co130)) (fun _ h_ => h_.1))) hb); have n10_ := Aside0.mk (blk_below (g := gb262) (o := .cells #[.slice A0_0 l0_0.length c0_0, .slice A0_1 l0_1.length c0_1] 30 (0, 0)) (by (with_reducible repeat (refine blk_alloc ?_ _)); refine blk_far ?_ NB262_322.out _; (with_reducible repeat (refine blk_alloc ?_ _)); refine blk_far ?_ NB262_322.out _; (with_reducible repeat (refine blk_alloc ?_ _)); exact BK262.out) hb); have n11_ := Aside0.mk (blk_below (g := gb277) (o := .cells #[.slice Ao21 t270.length co21, .slice Ao24 t273.length co24] 34 (0, 0)) (by (with_reducible repeat (refine blk_alloc ?_ _)); refine blk_far ?_ NB277_322.out _; (with_reducible repeat (refine blk_alloc ?_ _)); refine blk_far ?_ NB277_322.out _; (with_reducible repeat (refine blk_alloc ?_ _)); exact BK277.out) hb); have n12_ := Aside0.mk (blk_below (g := gb284) (o := .cells #[.slice Ao28 t302.length co28, .slice Ao32 t303.length co32] 34 (0, 0)) (by (with_reducible repeat (refine blk_alloc ?_ _)); refine blk_far ?_ NB284_322.out _; (with_reducible repeat (refine blk_alloc ?_ _)); refine blk_far ?_ NB284_322.out _; (with_reducible repeat (refine blk_alloc ?_ _)); exact BK284.out) hb); have n13_ := Aside0.mk (blk_below (g := gb292) (o := .cells #[.slice Ao35 t285.length co35, .slice Ao40 t288.length co40] 34 (0, 0)) (by (with_reducible repeat (refine blk_alloc ?_ _)); refine blk_far ?_ NB292_322.out _; (with_reducible repeat (refine blk_alloc ?_ _)); refine blk_far ?_ NB292_322.out _; (with_reducible repeat (refine blk_alloc ?_ _)); exact BK292.out) hb); have n14_ := Aside0.mk (blk_below (g := gb322) (o := .cells #[.slice Ao124 t315.length co124, .slice Ao130 t318.length co130] 34 (0, 0)) (by (with_reducible repeat (refine blk_alloc ?_ _)); refine blk_put (cs := #[.slice Ao124 t315.length co124, .slice none 0 0]) ?_ 1 _ rfl; (with_reducible repeat (refine blk_alloc ?_ _)); refine blk_put (cs := #[.slice none 0 0, .slice none 0 0]) ?_ 0 _ rfl; (with_reducible repeat (refine blk_alloc ?_ _)); exact BK322.out) hb); have n15_ := Aside0.mk (below_step (by repeat (first | (with_reducible first | exact HB.out | apply below_alloc | refine below_set ?_ GE262.out | refine below_set ?_ GE277.out | refine below_set ?_ GE284.out | refine below_set ?_ GE292.out | refine below_set ?_ GE322.out) | exact HB.out)) hb); clear HO_278000; clear HO_278001; clear HO_285000; clear HO_285001; clear HO_293000; clear HO_293001; clear HO311; clear HO314; clear HO317; clear HO320; clear BK262; clear BK277; clear BK284; clear BK292; clear BK322; clear HB; have HO_278000 := n0_; have HO_278001 := n1_; have HO_285000 := n2_; have HO_285001 := n3_; have HO_293000 := n4_; have HO_293001 := n5_; have HO311 := n6_; have HO314 := n7_; have HO317 := n8_; have HO320 := n9_; have BK262 := n10_; have BK277 := n11_; have BK284 := n12_; have BK292 := n13_; have BK322 := n14_; have HB := n15_; clear n0_ n1_ n2_ n3_ n4_ n5_ n6_ n7_ n8_ n9_ n10_ n11_ n12_ n13_ n14_ n15_; (try clear hb); (try clear hb2); (try clear hk); (try clear hi)))
                          go_meet
                          case rel => exact ⟨_, ((t321 != t276)), (by first | rfl | (simp; done) | (simp [*]; done)), H', ⟨by have := HJ10.out; have := HJ63.out; first | omega | exact Nat.le_refl _⟩, ⟨by (try simp only [hl285000_63]); (try simp only [hl285001_63]); (with_reducible repeat (first | apply Kd.R_alloc)); exact Kd.R_mono HO_278000.out (fun _ hk => ⟨hk.1.1.1.1.1, ⟨hk.1.1.1.1.2.1, ⟨hk.1.1.1.1.2.2.1, ⟨hk.1.1.1.1.2.2.2.1, ⟨hk.1.1.1.1.2.2.2.2, ⟨hk.1.2, hk.2⟩⟩⟩⟩⟩⟩)⟩, ⟨by (try simp only [hl285000_63]); (try simp only [hl285001_63]); (with_reducible repeat (first | apply Kd.R_alloc)); exact Kd.R_mono HO_278001.out (fun _ hk => ⟨hk.1.1.1.1.1, ⟨hk.1.1.1.1.2.1, ⟨hk.1.1.1.1.2.2.1, ⟨hk.1.1.1.1.2.2.2.1, ⟨hk.1.1.1.1.2.2.2.2, ⟨hk.1.2, hk.2⟩⟩⟩⟩⟩⟩)⟩, ⟨by (try simp only [hl285000_63]); (try simp only [hl285001_63]); (with_reducible repeat (first | apply Kd.R_alloc)); exact Kd.R_mono HO_285000.out (fun _ hk => ⟨hk.1.1.1.1.1, ⟨hk.1.1.1.1.2.1, ⟨hk.1.1.1.1.2.2.1, ⟨hk.1.1.1.1.2.2.2.1, ⟨hk.1.1.1.1.2.2.2.2, ⟨hk.1.2, hk.2⟩⟩⟩⟩⟩⟩)⟩, ⟨by (try simp only [hl285000_63]); (try simp only [hl285001_63]); (with_reducible repeat (first | apply Kd.R_alloc)); exact Kd.R_mono HO_285001.out (fun _ hk => ⟨hk.1.1.1.1.1, ⟨hk.1.1.1.1.2.1, ⟨hk.1.1.1.1.2.2.1, ⟨hk.1.1.1.1.2.2.2.1, ⟨hk.1.1.1.1.2.2.2.2, ⟨hk.1.2, hk.2⟩⟩⟩⟩⟩⟩)⟩, ⟨by (try simp only [hl285000_63]); (try simp only [hl285001_63]); (with_reducible repeat (first | apply Kd.R_alloc)); exact Kd.R_mono HO_293000.out (fun _ hk => ⟨hk.1.1.1.1.1, ⟨hk.1.1.1.1.2.1, ⟨hk.1.1.1.1.2.2.1, ⟨hk.1.1.1.1.2.2.2.1, ⟨hk.1.1.1.1.2.2.2.2, ⟨hk.1.2, hk.2⟩⟩⟩⟩⟩⟩)⟩, ⟨by (try simp only [hl285000_63]); (try simp only [hl285001_63]); (with_reducible repeat (first | apply Kd.R_alloc)); exact Kd.R_mono HO_293001.out (fun _ hk => ⟨hk.1.1.1.1.1, ⟨hk.1.1.1.1.2.1, ⟨hk.1.1.1.1.2.2.1, ⟨hk.1.1.1.1.2.2.2.1, ⟨hk.1.1.1.1.2.2.2.2, ⟨hk.1.2, hk.2⟩⟩⟩⟩⟩⟩)⟩, ⟨by (try simp only [hl285000_63]); (try simp only [hl285001_63]); (with_reducible repeat (first | apply Kd.R_alloc)); exact Kd.R_mono HO317.out (fun _ hk => ⟨hk.1.1.1.1.1.1.1.2, ⟨hk.1.1.1.1.1.1.2, ⟨hk.1.1.1.1.1.2, ⟨hk.1.1.1.1.2, ⟨hk.1.1.1.2, ⟨hk.1.1.2, hk.1.1.1.1.1.1.1.1⟩⟩⟩⟩⟩⟩)⟩, ⟨by (try simp only [hl285000_63]); (try simp only [hl285001_63]); (with_reducible repeat (first | apply Kd.R_alloc)); exact Kd.R_mono HO320.out (fun _ hk => ⟨hk.1.1.1.1.1.1.1.2, ⟨hk.1.1.1.1.1.1.2, ⟨hk.1.1.1.1.1.2, ⟨hk.1.1.1.1.2, ⟨hk.1.1.1.2, ⟨hk.1.1.2, hk.1.1.1.1.1.1.1.1⟩⟩⟩⟩⟩⟩)⟩, ⟨by (try simp only [hl285000_63]); (try simp only [hl285001_63]); (with_reducible repeat (refine blk_alloc ?_ _)); exact BK262.out⟩, ⟨by (try simp only [hl285000_63]); (try simp only [hl285001_63]); (with_reducible repeat (refine blk_alloc ?_ _)); exact BK277.out⟩, ⟨by (try simp only [hl285000_63]); (try simp only [hl285001_63]); (with_reducible repeat (refine blk_alloc ?_ _)); exact BK284.out⟩, ⟨by (try simp only [hl285000_63]); (try simp only [hl285001_63]); (with_reducible repeat (refine blk_alloc ?_ _)); exact BK292.out⟩, ⟨by (try simp only [hl285000_63]); (try simp only [hl285001_63]); (with_reducible repeat (refine blk_alloc ?_ _)); exact BK322.out⟩, ⟨by repeat (first | (with_reducible first | exact HB.out | apply below_alloc | refine below_set ?_ GE262.out | refine below_set ?_ GE277.out | refine below_set ?_ GE284.out | refine below_set ?_ GE292.out | refine below_set ?_ GE322.out) | exact HB.out)⟩⟩
                        · replace c132 := Bool.eq_false_iff.mpr c132
                          subst c132
                          have H1 : (laws_FnExactMendDisk.j2 kj63 t305 true t306 t307) = some r := by rw [if_neg (show ¬ (false = true) by decide)] at H; exact H
                          clear H
                          have H := H1
                          clear H1
                          have H' := Aside0.mk H
                          clear H
                          have hnb143 := NB322_262.out
                          have hnc143 := NB262_322.out
                          have hnb144 := NB322_277.out
                          have hnc144 := NB277_322.out
                          have hnb145 := NB322_284.out
                          have hnc145 := NB284_322.out
                          have hnb146 := NB322_292.out
                          have hnc146 := NB292_322.out
                          have hcz147_0 : w123.cell? ⟨gb322, 0, none⟩ = some (.slice none 0 0) := (blk_cell BK322.out 0).trans rfl
                          have hcz147_1 : w123.cell? ⟨gb322, 1, none⟩ = some (.slice none 0 0) := (blk_cell BK322.out 1).trans rfl
                          have hfz147_0 := blk_frozen BK322.out 0
                          have hfz147_1 := blk_frozen BK322.out 1
                          have hnb148 := NB277_262.out
                          have hnc148 := NB262_277.out
                          have hnb149 := NB277_284.out
                          have hnc149 := NB284_277.out
                          have hnb150 := NB277_292.out
                          have hnc150 := NB292_277.out
                          have hcz151_0 : w123.cell? ⟨gb277, 0, none⟩ = some (.slice Ao21 t270.length co21) := (blk_cell BK277.out 0).trans rfl
                          have hcz151_1 : w123.cell? ⟨gb277, 1, none⟩ = some (.slice Ao24 t273.length co24) := (blk_cell BK277.out 1).trans rfl
                          have hfz151_0 := blk_frozen BK277.out 0
                          have hfz151_1 := blk_frozen BK277.out 1
                          go_wp2_with (first | ((with_reducible refine gate_callee (f := 18) rfl ?_); refine goesL_ (some 81) rfl rfl Try.func18 (by kernel_rfl) rfl #[.agg #[.slice Ao124 t315.length co124, .slice Ao130 t318.length co130], .agg #[.slice Ao21 t270.length co21, .slice Ao24 t273.length co24]] rfl (by (try simp only [List.map_toArray, List.map_cons, List.map_nil]); first | done | rfl | (simp only [List.length_drop, List.length_take]; rfl)) ?_; (with_reducible refine (laws_eqDisk.calls kj63 _ _ t315 _ _ t318 _ _ t270 _ _ t273 false _ ?side1 ?side2 ?side3 ?side4 ?side5 ?side6 ?side7 ?side8 A131.out).mono ?_); (case side1 => refine (Kd.R_reads' (e := 9) (base := w.heap.size) (ok := fun k_ => ((((((((some k_ ≠ (.slice Ao130 t318.length co130 : Value).ownBlock ∧ some k_ ≠ (.slice Ao21 t270.length co21 : Value).ownBlock) ∧ some k_ ≠ (.slice Ao24 t273.length co24 : Value).ownBlock) ∧ some k_ ≠ (.slice Ao28 t302.length co28 : Value).ownBlock) ∧ some k_ ≠ (.slice Ao32 t303.length co32 : Value).ownBlock) ∧ some k_ ≠ (.slice Ao35 t285.length co35 : Value).ownBlock) ∧ some k_ ≠ (.slice Ao40 t288.length co40 : Value).ownBlock) ∧ some k_ ≠ (.slice Ao120 t309.length co120 : Value).ownBlock) ∧ some k_ ≠ (.slice Ao121 t312.length co121 : Value).ownBlock)) (n := t315.length) (c := co124) ?_).2.2; exact (by (with_reducible repeat (first | apply Kd.R_alloc)); exact (Kd.R_mono (Kd.R_far (p := ⟨gb322, 1, none⟩) (Kd.R_far (p := ⟨gb322, 0, none⟩) (Kd.R_types HO317.out BK322.out (by decide)) (fun _ hk => hk.2) (.slice Ao124 t315.length co124)) (fun _ hk => hk.2) (.slice Ao130 t318.length co130)) (fun _ h_ => h_.1)))); (case side2 => exact (Kd.R_reads' HO317.out).2.1); (case side3 => refine (Kd.R_reads' (e := 9) (base := w.heap.size) (ok := fun k_ => ((((((((some k_ ≠ (.slice Ao124 t315.length co124 : Value).ownBlock ∧ some k_ ≠ (.slice Ao21 t270.length co21 : Value).ownBlock) ∧ some k_ ≠ (.slice Ao24 t273.length co24 : Value).ownBlock) ∧ some k_ ≠ (.slice Ao28 t302.length co28 : Value).ownBlock) ∧ some k_ ≠ (.slice Ao32 t303.length co32 : Value).ownBlock) ∧ some k_ ≠ (.slice Ao35 t285.length co35 : Value).ownBlock) ∧ some k_ ≠ (.slice Ao40 t288.length co40 : Value).ownBlock) ∧ some k_ ≠ (.slice Ao120 t309.length co120 : Value).ownBlock) ∧ some k_ ≠ (.slice Ao121 t312.length co121 : Value).ownBlock)) (n := t318.length) (c := co130) ?_).2.2; exact (by (with_reducible repeat (first | apply Kd.R_alloc)); exact (Kd.R_mono (Kd.R_far (p := ⟨gb322, 1, none⟩) (Kd.R_far (p := ⟨gb322, 0, none⟩) (Kd.R_types HO320.out BK322.out (by decide)) (fun _ hk => hk.2) (.slice Ao124 t315.length co124)) (fun _ hk => hk.2) (.slice Ao130 t318.length co130)) (fun _ h_ => h_.1)))); (case side4 => exact (Kd.R_reads' HO320.out).2.1); (case side5 => refine (Kd.R_reads' (e := 9) (base := w.heap.size) (ok := fun k_ => (((((some k_ ≠ (.slice Ao24 t273.length co24 : Value).ownBlock ∧ (some k_ ≠ (.slice Ao28 t302.length co28 : Value).ownBlock ∧ (some k_ ≠ (.slice Ao32 t303.length co32 : Value).ownBlock ∧ (some k_ ≠ (.slice Ao35 t285.length co35 : Value).ownBlock ∧ some k_ ≠ (.slice Ao40 t288.length co40 : Value).ownBlock)))) ∧ some k_ ≠ (.slice Ao120 t309.length co120 : Value).ownBlock) ∧ some k_ ≠ (.slice Ao121 t312.length co121 : Value).ownBlock) ∧ some k_ ≠ (.slice Ao124 t315.length co124 : Value).ownBlock) ∧ some k_ ≠ (.slice Ao130 t318.length co130 : Value).ownBlock)) (n := t270.length) (c := co21) ?_).2.2; exact (by (with_reducible repeat (first | apply Kd.R_alloc)); exact (Kd.R_mono (Kd.R_far (p := ⟨gb322, 1, none⟩) (Kd.R_far (p := ⟨gb322, 0, none⟩) (Kd.R_types HO_278000.out BK322.out (by decide)) (fun _ hk => hk.2) (.slice Ao124 t315.length co124)) (fun _ hk => hk.2) (.slice Ao130 t318.length co130)) (fun _ h_ => h_.1)))); (case side6 => exact (Kd.R_reads' HO_278000.out).2.1); (case side7 => refine (Kd.R_reads' (e := 9) (base := w.heap.size) (ok := fun k_ => (((((some k_ ≠ (.slice Ao21 t270.length co21 : Value).ownBlock ∧ (some k_ ≠ (.slice Ao28 t302.length co28 : Value).ownBlock ∧ (some k_ ≠ (.slice Ao32 t303.length co32 : Value).ownBlock ∧ (some k_ ≠ (.slice Ao35 t285.length co35 : Value).ownBlock ∧ some k_ ≠ (.slice Ao40 t288.length co40 : Value).ownBlock)))) ∧ some k_ ≠ (.slice Ao120 t309.length co120 : Value).ownBlock) ∧ some k_ ≠ (.slice Ao121 t312.length co121 : Value).ownBlock) ∧ some k_ ≠ (.slice Ao124 t315.length co124 : Value).ownBlock) ∧ some k_ ≠ (.slice Ao130 t318.length co130 : Value).ownBlock)) (n := t273.length) (c := co24) ?_).2.2; exact (by (with_reducible repeat (first | apply Kd.R_alloc)); exact (Kd.R_mono (Kd.R_far (p := ⟨gb322, 1, none⟩) (Kd.R_far (p := ⟨gb322, 0, none⟩) (Kd.R_types HO_278001.out BK322.out (by decide)) (fun _ hk => hk.2) (.slice Ao124 t315.length co124)) (fun _ hk => hk.2) (.slice Ao130 t318.length co130)) (fun _ h_ => h_.1)))); (case side8 => exact (Kd.R_reads' HO_278001.out).2.1); rintro e w152 ⟨rfl, hb⟩; refine ⟨_, rfl, ?_⟩; have n0_ := Aside0.mk (Kd.R_below (by (with_reducible repeat (first | apply Kd.R_alloc)); exact (Kd.R_mono (Kd.R_far (p := ⟨gb322, 1, none⟩) (Kd.R_far (p := ⟨gb322, 0, none⟩) (Kd.R_types HO_278000.out BK322.out (by decide)) (fun _ hk => hk.2) (.slice Ao124 t315.length co124)) (fun _ hk => hk.2) (.slice Ao130 t318.length co130)) (fun _ h_ => h_.1))) hb); have n1_ := Aside0.mk (Kd.R_below (by (with_reducible repeat (first | apply Kd.R_alloc)); exact (Kd.R_mono (Kd.R_far (p := ⟨gb322, 1, none⟩) (Kd.R_far (p := ⟨gb322, 0, none⟩) (Kd.R_types HO_278001.out BK322.out (by decide)) (fun _ hk => hk.2) (.slice Ao124 t315.length co124)) (fun _ hk => hk.2) (.slice Ao130 t318.length co130)) (fun _ h_ => h_.1))) hb); have n2_ := Aside0.mk (Kd.R_below (by (with_reducible repeat (first | apply Kd.R_alloc)); exact (Kd.R_mono (Kd.R_far (p := ⟨gb322, 1, none⟩) (Kd.R_far (p := ⟨gb322, 0, none⟩) (Kd.R_types HO_285000.out BK322.out (by decide)) (fun _ hk => hk.2) (.slice Ao124 t315.length co124)) (fun _ hk => hk.2) (.slice Ao130 t318.length co130)) (fun _ h_ => h_.1))) hb); have n3_ := Aside0.mk (Kd.R_below (by (with_reducible repeat (first | apply Kd.R_alloc)); exact (Kd.R_mono (Kd.R_far (p := ⟨gb322, 1, none⟩) (Kd.R_far (p := ⟨gb322, 0, none⟩) (Kd.R_types HO_285001.out BK322.out (by decide)) (fun _ hk => hk.2) (.slice Ao124 t315.length co124)) (fun _ hk => hk.2) (.slice Ao130 t318.length co130)) (fun _ h_ => h_.1))) hb); have n4_ := Aside0.mk (Kd.R_below (by (with_reducible repeat (first | apply Kd.R_alloc)); exact (Kd.R_mono (Kd.R_far (p := ⟨gb322, 1, none⟩) (Kd.R_far (p := ⟨gb322, 0, none⟩) (Kd.R_types HO_293000.out BK322.out (by decide)) (fun _ hk => hk.2) (.slice Ao124 t315.length co124)) (fun _ hk => hk.2) (.slice Ao130 t318.length co130)) (fun _ h_ => h_.1))) hb); have n5_ := Aside0.mk (Kd.R_below (by (with_reducible repeat (first | apply Kd.R_alloc)); exact (Kd.R_mono (Kd.R_far (p := ⟨gb322, 1, none⟩) (Kd.R_far (p := ⟨gb322, 0, none⟩) (Kd.R_types HO_293001.out BK322.out (by decide)) (fun _ hk => hk.2) (.slice Ao124 t315.length co124)) (fun _ hk => hk.2) (.slice Ao130 t318.length co130)) (fun _ h_ => h_.1))) hb); have n6_ := Aside0.mk (Kd.R_below (by (with_reducible repeat (first | apply Kd.R_alloc)); exact (Kd.R_mono (Kd.R_far (p := ⟨gb322, 1, none⟩) (Kd.R_far (p := ⟨gb322, 0, none⟩) (Kd.R_types HO311.out BK322.out (by decide)) (fun _ hk => hk.2) (.slice Ao124 t315.length co124)) (fun _ hk => hk.2) (.slice Ao130 t318.length co130)) (fun _ h_ => h_.1))) hb); have n7_ := Aside0.mk (Kd.R_below (by (with_reducible repeat (first | apply Kd.R_alloc)); exact (Kd.R_mono (Kd.R_far (p := ⟨gb322, 1, none⟩) (Kd.R_far (p := ⟨gb322, 0, none⟩) (Kd.R_types HO314.out BK322.out (by decide)) (fun _ hk => hk.2) (.slice Ao124 t315.length co124)) (fun _ hk => hk.2) (.slice Ao130 t318.length co130)) (fun _ h_ => h_.1))) hb); have n8_ := Aside0.mk (Kd.R_below (by (with_reducible repeat (first | apply Kd.R_alloc)); exact (Kd.R_mono (Kd.R_far (p := ⟨gb322, 1, none⟩) (Kd.R_far (p := ⟨gb322, 0, none⟩) (Kd.R_types HO317.out BK322.out (by decide)) (fun _ hk => hk.2) (.slice Ao124 t315.length co124)) (fun _ hk => hk.2) (.slice Ao130 t318.length co130)) (fun _ h_ => h_.1))) hb); have n9_ := Aside0.mk (Kd.R_below (by (with_reducible repeat (first | apply Kd.R_alloc)); exact (Kd.R_mono (Kd.R_far (p := ⟨gb322, 1, none⟩) (Kd.R_far (p := ⟨gb322, 0, none⟩) (Kd.R_types HO320.out BK322.out (by decide)) (fun _ hk => hk.2) (.slice Ao124 t315.length co124)) (fun _ hk => hk.2) (.slice Ao130 t318.length co130)) (fun _ h_ => h_.1))) hb); have n10_ := Aside0.mk (blk_below (g := gb262) (o := .cells #[.slice A0_0 l0_0.length c0_0, .slice A0_1 l0_1.length c0_1] 30 (0, 0)) (by (with_reducible repeat (refine blk_alloc ?_ _)); refine blk_far ?_ NB262_322.out _; (with_reducible repeat (refine blk_alloc ?_ _)); refine blk_far ?_ NB262_322.out _; (with_reducible repeat (refine blk_alloc ?_ _)); exact BK262.out) hb); have n11_ := Aside0.mk (blk_below (g := gb277) (o := .cells #[.slice Ao21 t270.length co21, .slice Ao24 t273.length co24] 34 (0, 0)) (by (with_reducible repeat (refine blk_alloc ?_ _)); refine blk_far ?_ NB277_322.out _; (with_reducible repeat (refine blk_alloc ?_ _)); refine blk_far ?_ NB277_322.out _; (with_reducible repeat (refine blk_alloc ?_ _)); exact BK277.out) hb); have n12_ := Aside0.mk (blk_below (g := gb284) (o := .cells #[.slice Ao28 t302.length co28, .slice Ao32 t303.length co32] 34 (0, 0)) (by (with_reducible repeat (refine blk_alloc ?_ _)); refine blk_far ?_ NB284_322.out _; (with_reducible repeat (refine blk_alloc ?_ _)); refine blk_far ?_ NB284_322.out _; (with_reducible repeat (refine blk_alloc ?_ _)); exact BK284.out) hb); have n13_ := Aside0.mk (blk_below (g := gb292) (o := .cells #[.slice Ao35 t285.length co35, .slice Ao40 t288.length co40] 34 (0, 0)) (by (with_reducible repeat (refine blk_alloc ?_ _)); refine blk_far ?_ NB292_322.out _; (with_reducible repeat (refine blk_alloc ?_ _)); refine blk_far ?_ NB292_322.out _; (with_reducible repeat (refine blk_alloc ?_ _)); exact BK292.out) hb); have n14_ := Aside0.mk (blk_below (g := gb322) (o := .cells #[.slice Ao124 t315.length co124, .slice Ao130 t318.length co130] 34 (0, 0)) (by (with_reducible repeat (refine blk_alloc ?_ _)); refine blk_put (cs := #[.slice Ao124 t315.length co124, .slice none 0 0]) ?_ 1 _ rfl; (with_reducible repeat (refine blk_alloc ?_ _)); refine blk_put (cs := #[.slice none 0 0, .slice none 0 0]) ?_ 0 _ rfl; (with_reducible repeat (refine blk_alloc ?_ _)); exact BK322.out) hb); have n15_ := Aside0.mk (below_step (by repeat (first | (with_reducible first | exact HB.out | apply below_alloc | refine below_set ?_ GE262.out | refine below_set ?_ GE277.out | refine below_set ?_ GE284.out | refine below_set ?_ GE292.out | refine below_set ?_ GE322.out) | exact HB.out)) hb); clear HO_278000; clear HO_278001; clear HO_285000; clear HO_285001; clear HO_293000; clear HO_293001; clear HO311; clear HO314; clear HO317; clear HO320; clear BK262; clear BK277; clear BK284; clear BK292; clear BK322; clear HB; have HO_278000 := n0_; have HO_278001 := n1_; have HO_285000 := n2_; have HO_285001 := n3_; have HO_293000 := n4_; have HO_293001 := n5_; have HO311 := n6_; have HO314 := n7_; have HO317 := n8_; have HO320 := n9_; have BK262 := n10_; have BK277 := n11_; have BK284 := n12_; have BK292 := n13_; have BK322 := n14_; have HB := n15_; clear n0_ n1_ n2_ n3_ n4_ n5_ n6_ n7_ n8_ n9_ n10_ n11_ n12_ n13_ n14_ n15_; (try clear hb); (try clear hb2); (try clear hk); (try clear hi)))
                          go_meet
                          case rel => exact ⟨_, (true), (by first | rfl | (simp; done) | (simp [*]; done)), H', ⟨by have := HJ10.out; have := HJ63.out; first | omega | exact Nat.le_refl _⟩, ⟨by (try simp only [hl285000_63]); (try simp only [hl285001_63]); (with_reducible repeat (first | apply Kd.R_alloc)); exact Kd.R_mono HO_278000.out (fun _ hk => ⟨hk.1.1.1.1.1, ⟨hk.1.1.1.1.2.1, ⟨hk.1.1.1.1.2.2.1, ⟨hk.1.1.1.1.2.2.2.1, ⟨hk.1.1.1.1.2.2.2.2, ⟨hk.1.2, hk.2⟩⟩⟩⟩⟩⟩)⟩, ⟨by (try simp only [hl285000_63]); (try simp only [hl285001_63]); (with_reducible repeat (first | apply Kd.R_alloc)); exact Kd.R_mono HO_278001.out (fun _ hk => ⟨hk.1.1.1.1.1, ⟨hk.1.1.1.1.2.1, ⟨hk.1.1.1.1.2.2.1, ⟨hk.1.1.1.1.2.2.2.1, ⟨hk.1.1.1.1.2.2.2.2, ⟨hk.1.2, hk.2⟩⟩⟩⟩⟩⟩)⟩, ⟨by (try simp only [hl285000_63]); (try simp only [hl285001_63]); (with_reducible repeat (first | apply Kd.R_alloc)); exact Kd.R_mono HO_285000.out (fun _ hk => ⟨hk.1.1.1.1.1, ⟨hk.1.1.1.1.2.1, ⟨hk.1.1.1.1.2.2.1, ⟨hk.1.1.1.1.2.2.2.1, ⟨hk.1.1.1.1.2.2.2.2, ⟨hk.1.2, hk.2⟩⟩⟩⟩⟩⟩)⟩, ⟨by (try simp only [hl285000_63]); (try simp only [hl285001_63]); (with_reducible repeat (first | apply Kd.R_alloc)); exact Kd.R_mono HO_285001.out (fun _ hk => ⟨hk.1.1.1.1.1, ⟨hk.1.1.1.1.2.1, ⟨hk.1.1.1.1.2.2.1, ⟨hk.1.1.1.1.2.2.2.1, ⟨hk.1.1.1.1.2.2.2.2, ⟨hk.1.2, hk.2⟩⟩⟩⟩⟩⟩)⟩, ⟨by (try simp only [hl285000_63]); (try simp only [hl285001_63]); (with_reducible repeat (first | apply Kd.R_alloc)); exact Kd.R_mono HO_293000.out (fun _ hk => ⟨hk.1.1.1.1.1, ⟨hk.1.1.1.1.2.1, ⟨hk.1.1.1.1.2.2.1, ⟨hk.1.1.1.1.2.2.2.1, ⟨hk.1.1.1.1.2.2.2.2, ⟨hk.1.2, hk.2⟩⟩⟩⟩⟩⟩)⟩, ⟨by (try simp only [hl285000_63]); (try simp only [hl285001_63]); (with_reducible repeat (first | apply Kd.R_alloc)); exact Kd.R_mono HO_293001.out (fun _ hk => ⟨hk.1.1.1.1.1, ⟨hk.1.1.1.1.2.1, ⟨hk.1.1.1.1.2.2.1, ⟨hk.1.1.1.1.2.2.2.1, ⟨hk.1.1.1.1.2.2.2.2, ⟨hk.1.2, hk.2⟩⟩⟩⟩⟩⟩)⟩, ⟨by (try simp only [hl285000_63]); (try simp only [hl285001_63]); (with_reducible repeat (first | apply Kd.R_alloc)); exact Kd.R_mono HO317.out (fun _ hk => ⟨hk.1.1.1.1.1.1.1.2, ⟨hk.1.1.1.1.1.1.2, ⟨hk.1.1.1.1.1.2, ⟨hk.1.1.1.1.2, ⟨hk.1.1.1.2, ⟨hk.1.1.2, hk.1.1.1.1.1.1.1.1⟩⟩⟩⟩⟩⟩)⟩, ⟨by (try simp only [hl285000_63]); (try simp only [hl285001_63]); (with_reducible repeat (first | apply Kd.R_alloc)); exact Kd.R_mono HO320.out (fun _ hk => ⟨hk.1.1.1.1.1.1.1.2, ⟨hk.1.1.1.1.1.1.2, ⟨hk.1.1.1.1.1.2, ⟨hk.1.1.1.1.2, ⟨hk.1.1.1.2, ⟨hk.1.1.2, hk.1.1.1.1.1.1.1.1⟩⟩⟩⟩⟩⟩)⟩, ⟨by (try simp only [hl285000_63]); (try simp only [hl285001_63]); (with_reducible repeat (refine blk_alloc ?_ _)); exact BK262.out⟩, ⟨by (try simp only [hl285000_63]); (try simp only [hl285001_63]); (with_reducible repeat (refine blk_alloc ?_ _)); exact BK277.out⟩, ⟨by (try simp only [hl285000_63]); (try simp only [hl285001_63]); (with_reducible repeat (refine blk_alloc ?_ _)); exact BK284.out⟩, ⟨by (try simp only [hl285000_63]); (try simp only [hl285001_63]); (with_reducible repeat (refine blk_alloc ?_ _)); exact BK292.out⟩, ⟨by (try simp only [hl285000_63]); (try simp only [hl285001_63]); (with_reducible repeat (refine blk_alloc ?_ _)); exact BK322.out⟩, ⟨by repeat (first | (with_reducible first | exact HB.out | apply below_alloc | refine below_set ?_ GE262.out | refine below_set ?_ GE277.out | refine below_set ?_ GE284.out | refine below_set ?_ GE292.out | refine below_set ?_ GE322.out) | exact HB.out)⟩⟩
                      case rest =>
                        clear HC108
                        try clear c1
                        try clear c2
                        try clear p2
                        try clear c3
                        try clear c3b0
                        try clear c4
                        try clear c5
                        try clear c6
                        try clear c7
                        try clear c8
                        try clear c9
                        try clear c10
                        try clear c11
                        try clear c12
                        try clear c13
                        try clear c14
                        try clear c15
                        try clear c18
                        try clear c19
                        try clear c22
                        try clear c23
                        try clear c24
                        try clear c29
                        try clear c30
                        try clear c36
                        try clear c37
                        try clear c38
                        try clear c42
                        try clear c43
                        try clear c44
                        try clear c45
                        try clear c47
                        try clear c48
                        try clear c51
                        try clear c52
                        try clear c53
                        try clear c55
                        try clear c56
                        try clear c59
                        try clear c62
                        try clear c70
                        try clear c71
                        try clear c72
                        try clear c75
                        try clear c75b0
                        try clear c77
                        try clear c78
                        try clear c79
                        try clear c80
                        try clear c82
                        try clear c83
                        try clear c86
                        try clear c87
                        try clear c88
                        try clear c90
                        try clear c91
                        try clear c94
                        try clear c97
                        try clear c97b0
                        try clear c98
                        try clear c99
                        try clear c100
                        try clear c105
                        try clear c105b0
                        try clear c105b1
                        try clear c109
                        try clear c110
                        try clear c111
                        try clear c116
                        try clear c117
                        try clear c125
                        try clear c126
                        try clear c127
                        try clear c128
                        try clear c132
                        try clear c133
                        try clear c134
                        try clear c135
                        try clear c136
                        try clear c138
                        try clear c139
                        try clear c140
                        try clear c143
                        try clear c144
                        try clear c145
                        try clear c146
                        try clear c148
                        try clear c149
                        try clear c150
                        try clear hcz101_0
                        try clear hcz101_1
                        try clear hcz103_0
                        try clear hcz103_1
                        try clear hcz112_0
                        try clear hcz112_1
                        try clear hcz114_0
                        try clear hcz114_1
                        try clear hcz118_0
                        try clear hcz118_1
                        try clear hcz129_0
                        try clear hcz129_1
                        try clear hcz137_0
                        try clear hcz137_1
                        try clear hcz13_0
                        try clear hcz13_1
                        try clear hcz141_0
                        try clear hcz141_1
                        try clear hcz147_0
                        try clear hcz147_1
                        try clear hcz151_0
                        try clear hcz151_1
                        try clear hcz15_0
                        try clear hcz15_1
                        try clear hcz23_0
                        try clear hcz23_1
                        try clear hcz25_0
                        try clear hcz25_1
                        try clear hcz31_0
                        try clear hcz31_1
                        try clear hcz39_0
                        try clear hcz39_1
                        try clear hcz46_0
                        try clear hcz46_1
                        try clear hcz49_0
                        try clear hcz49_1
                        try clear hcz54_0
                        try clear hcz54_1
                        try clear hcz57_0
                        try clear hcz57_1
                        try clear hcz5_0
                        try clear hcz5_1
                        try clear hcz73_0
                        try clear hcz73_1
                        try clear hcz81_0
                        try clear hcz81_1
                        try clear hcz84_0
                        try clear hcz84_1
                        try clear hcz89_0
                        try clear hcz89_1
                        try clear hcz92_0
                        try clear hcz92_1
                        try clear hfz101_0
                        try clear hfz101_1
                        try clear hfz103_0
                        try clear hfz103_1
                        try clear hfz112_0
                        try clear hfz112_1
                        try clear hfz114_0
                        try clear hfz114_1
                        try clear hfz118_0
                        try clear hfz118_1
                        try clear hfz129_0
                        try clear hfz129_1
                        try clear hfz137_0
                        try clear hfz137_1
                        try clear hfz13_0
                        try clear hfz13_1
                        try clear hfz141_0
                        try clear hfz141_1
                        try clear hfz147_0
                        try clear hfz147_1
                        try clear hfz151_0
                        try clear hfz151_1
                        try clear hfz15_0
                        try clear hfz15_1
                        try clear hfz23_0
                        try clear hfz23_1
                        try clear hfz25_0
                        try clear hfz25_1
                        try clear hfz31_0
                        try clear hfz31_1
                        try clear hfz39_0
                        try clear hfz39_1
                        try clear hfz46_0
                        try clear hfz46_1
                        try clear hfz49_0
                        try clear hfz49_1
                        try clear hfz54_0
                        try clear hfz54_1
                        try clear hfz57_0
                        try clear hfz57_1
                        try clear hfz5_0
                        try clear hfz5_1
                        try clear hfz73_0
                        try clear hfz73_1
                        try clear hfz81_0
                        try clear hfz81_1
                        try clear hfz84_0
                        try clear hfz84_1
                        try clear hfz89_0
                        try clear hfz89_1
                        try clear hfz92_0
                        try clear hfz92_1
                        try clear p2
                        obtain ⟨kq, x87_107, rfl, HA, HJ107, HO_278000, HO_278001, HO_285000, HO_285001, HO_293000, HO_293001, HO_323000, HO_323001, BK262, BK277, BK284, BK292, BK322, HB⟩ := hcut
                        have hl293000_107 := (Kd.R_reads' HO_293000.out).1
                        rw [hl293000_107] at HO_293000
                        (try simp only [hl293000_107])
                        (try simp only [hl293000_107] at BK262)
                        (try simp only [hl293000_107] at BK277)
                        (try simp only [hl293000_107] at BK284)
                        (try simp only [hl293000_107] at BK292)
                        (try simp only [hl293000_107] at BK322)
                        (try simp only [hl293000_107] at HO_278000)
                        (try simp only [hl293000_107] at HO_278001)
                        (try simp only [hl293000_107] at HO_285000)
                        (try simp only [hl293000_107] at HO_285001)
                        (try simp only [hl293000_107] at HO_293001)
                        (try simp only [hl293000_107] at HO_323000)
                        (try simp only [hl293000_107] at HO_323001)
                        have hl293001_107 := (Kd.R_reads' HO_293001.out).1
                        rw [hl293001_107] at HO_293001
                        (try simp only [hl293001_107])
                        (try simp only [hl293001_107] at BK262)
                        (try simp only [hl293001_107] at BK277)
                        (try simp only [hl293001_107] at BK284)
                        (try simp only [hl293001_107] at BK292)
                        (try simp only [hl293001_107] at BK322)
                        (try simp only [hl293001_107] at HO_278000)
                        (try simp only [hl293001_107] at HO_278001)
                        (try simp only [hl293001_107] at HO_285000)
                        (try simp only [hl293001_107] at HO_285001)
                        (try simp only [hl293001_107] at HO_293000)
                        (try simp only [hl293001_107] at HO_323000)
                        (try simp only [hl293001_107] at HO_323001)
                        cases kq with
                        | zero => exact absurd HA.out (by simp [laws_FnExactMendDisk.j2])
                        | succ kj107 =>
                          have H := HA.out
                          clear HA
                          simp only [laws_FnExactMendDisk.j2] at H
                          by_cases c153 : x87_107 = true
                          · subst c153
                            have H1 : (some false) = some r := by rw [if_pos rfl] at H; exact H
                            clear H
                            have H := H1
                            clear H1
                            obtain rfl := Option.some.inj H
                            go_wp2
                            go_ret
                            exact ⟨by first | rfl | (simp [errW_none, errW_some] <;> rfl) | (simp [*, errW_none, errW_some] <;> rfl), by repeat (first | (with_reducible first | exact HB.out | apply below_alloc | refine below_set ?_ GE262.out | refine below_set ?_ GE277.out | refine below_set ?_ GE284.out | refine below_set ?_ GE292.out | refine below_set ?_ GE322.out) | exact HB.out)⟩
                          · replace c153 := Bool.eq_false_iff.mpr c153
                            subst c153
                            have H1 : ((laws_heldDisk.f kj107 t306 t307 1).bind fun t324 => (if t324 < 0 then (some false) else (if t324 = t305 then (some true) else (some false)))) = some r := by rw [if_neg (show ¬ (false = true) by decide)] at H; exact H
                            clear H
                            have H := H1
                            clear H1
                            replace H := Option.bind_eq_some_iff.mp H
                            obtain ⟨t324, A1540, H⟩ := H
                            replace H : (if t324 < 0 then (some false) else (if t324 = t305 then (some true) else (some false))) = some r := H
                            have A154 := Aside0.mk A1540
                            clear A1540
                            by_cases c155 : t324 < 0
                            · rw [if_pos c155] at H
                              have c155b0 : decide (t324 < 0) = true := decide_eq_true c155
                              clear c155
                              obtain rfl := Option.some.inj H
                              have hnb156 := NB292_262.out
                              have hnc156 := NB262_292.out
                              have hnb157 := NB292_277.out
                              have hnc157 := NB277_292.out
                              have hnb158 := NB292_284.out
                              have hnc158 := NB284_292.out
                              have hnb159 := NB292_322.out
                              have hnc159 := NB322_292.out
                              have hcz160_0 : wc.cell? ⟨gb292, 0, none⟩ = some (.slice Ao35 t306.length co35) := (blk_cell BK292.out 0).trans rfl
                              have hcz160_1 : wc.cell? ⟨gb292, 1, none⟩ = some (.slice Ao40 t307.length co40) := (blk_cell BK292.out 1).trans rfl
                              have hfz160_0 := blk_frozen BK292.out 0
                              have hfz160_1 := blk_frozen BK292.out 1
                              go_wp2_with (first | ((with_reducible refine gate_callee (f := 24) rfl ?_); refine goesL_ (some 90) rfl rfl Try.func24 (by kernel_rfl) rfl #[.agg #[.slice Ao35 t306.length co35, .slice Ao40 t307.length co40], .int .i64 1] rfl (by (try simp only [List.map_toArray, List.map_cons, List.map_nil]); first | done | rfl | (simp only [List.length_drop, List.length_take]; rfl)) ?_; (with_reducible refine (laws_heldDisk.calls kj107 _ _ t306 _ _ t307 1 t324 _ ?side1 ?side2 ?side3 ?side4 A154.out).mono ?_); (case side1 => repeat (first | exact (Kd.R_reads' HO_293000.out).2.2 | (with_reducible refine Kd.C_alloc ?_ _))); (case side2 => exact (Kd.R_reads' HO_293000.out).2.1); (case side3 => repeat (first | exact (Kd.R_reads' HO_293001.out).2.2 | (with_reducible refine Kd.C_alloc ?_ _))); (case side4 => exact (Kd.R_reads' HO_293001.out).2.1); rintro e w161 ⟨rfl, hb⟩; refine ⟨_, rfl, ?_⟩; have n0_ := Aside0.mk (Kd.R_below (by (with_reducible repeat (first | apply Kd.R_alloc)); exact HO_278000.out) hb); have n1_ := Aside0.mk (Kd.R_below (by (with_reducible repeat (first | apply Kd.R_alloc)); exact HO_278001.out) hb); have n2_ := Aside0.mk (Kd.R_below (by (with_reducible repeat (first | apply Kd.R_alloc)); exact HO_285000.out) hb); have n3_ := Aside0.mk (Kd.R_below (by (with_reducible repeat (first | apply Kd.R_alloc)); exact HO_285001.out) hb); have n4_ := Aside0.mk (Kd.R_below (by (with_reducible repeat (first | apply Kd.R_alloc)); exact HO_293000.out) hb); have n5_ := Aside0.mk (Kd.R_below (by (with_reducible repeat (first | apply Kd.R_alloc)); exact HO_293001.out) hb); have n6_ := Aside0.mk (Kd.R_below (by (with_reducible repeat (first | apply Kd.R_alloc)); exact HO_323000.out) hb); have n7_ := Aside0.mk (Kd.R_below (by (with_reducible repeat (first | apply Kd.R_alloc)); exact HO_323001.out) hb); have n8_ := Aside0.mk (blk_below (g := gb262) (o := .cells #[.slice A0_0 l0_0.length c0_0, .slice A0_1 l0_1.length c0_1] 30 (0, 0)) (by (with_reducible repeat (refine blk_alloc ?_ _)); exact BK262.out) hb); have n9_ := Aside0.mk (blk_below (g := gb277) (o := .cells #[.slice Ao21 t270.length co21, .slice Ao24 t273.length co24] 34 (0, 0)) (by (with_reducible repeat (refine blk_alloc ?_ _)); exact BK277.out) hb); have n10_ := Aside0.mk (blk_below (g := gb284) (o := .cells #[.slice Ao28 t302.length co28, .slice Ao32 t303.length co32] 34 (0, 0)) (by (with_reducible repeat (refine blk_alloc ?_ _)); exact BK284.out) hb); have n11_ := Aside0.mk (blk_below (g := gb292) (o := .cells #[.slice Ao35 t306.length co35, .slice Ao40 t307.length co40] 34 (0, 0)) (by (with_reducible repeat (refine blk_alloc ?_ _)); exact BK292.out) hb); have n12_ := Aside0.mk (blk_below (g := gb322) (o := .cells #[.slice Ao124 t315.length co124, .slice Ao130 t318.length co130] 34 (0, 0)) (by (with_reducible repeat (refine blk_alloc ?_ _)); exact BK322.out) hb); have n13_ := Aside0.mk (below_step (by repeat (first | (with_reducible first | exact HB.out | apply below_alloc | refine below_set ?_ GE262.out | refine below_set ?_ GE277.out | refine below_set ?_ GE284.out | refine below_set ?_ GE292.out | refine below_set ?_ GE322.out) | exact HB.out)) hb); clear HO_278000; clear HO_278001; clear HO_285000; clear HO_285001; clear HO_293000; clear HO_293001; clear HO_323000; clear HO_323001; clear BK262; clear BK277; clear BK284; clear BK292; clear BK322; clear HB; have HO_278000 := n0_; have HO_278001 := n1_; have HO_285000 := n2_; have HO_285001 := n3_; have HO_293000 := n4_; have HO_293001 := n5_; have HO_323000 := n6_; have HO_323001 := n7_; have BK262 := n8_; have BK277 := n9_; have BK284 := n10_; have BK292 := n11_; have BK322 := n12_; have HB := n13_; clear n0_ n1_ n2_ n3_ n4_ n5_ n6_ n7_ n8_ n9_ n10_ n11_ n12_ n13_; (try clear hb); (try clear hb2); (try clear hk); (try clear hi)))
                              go_ret
                              exact ⟨by first | rfl | (simp [errW_none, errW_some] <;> rfl) | (simp [*, errW_none, errW_some] <;> rfl), by repeat (first | (with_reducible first | exact HB.out | apply below_alloc | refine below_set ?_ GE262.out | refine below_set ?_ GE277.out | refine below_set ?_ GE284.out | refine below_set ?_ GE292.out | refine below_set ?_ GE322.out) | exact HB.out)⟩
                            · rw [if_neg c155] at H
                              have c155b0 : decide (t324 < 0) = false := decide_eq_false c155
                              clear c155
                              by_cases c162 : t324 = t305
                              · rw [if_pos c162] at H
                                have c162b0 : (t324 == t305) = true := beq_iff_eq.mpr c162
                                have c162b1 : (t324 != t305) = false := bne_eq_false_iff_eq.mpr c162
                                clear c162
                                obtain rfl := Option.some.inj H
                                have hnb163 := NB292_262.out
                                have hnc163 := NB262_292.out
                                have hnb164 := NB292_277.out
                                have hnc164 := NB277_292.out
                                have hnb165 := NB292_284.out
                                have hnc165 := NB284_292.out
                                have hnb166 := NB292_322.out
                                have hnc166 := NB322_292.out
                                have hcz167_0 : wc.cell? ⟨gb292, 0, none⟩ = some (.slice Ao35 t306.length co35) := (blk_cell BK292.out 0).trans rfl
                                have hcz167_1 : wc.cell? ⟨gb292, 1, none⟩ = some (.slice Ao40 t307.length co40) := (blk_cell BK292.out 1).trans rfl
                                have hfz167_0 := blk_frozen BK292.out 0
                                have hfz167_1 := blk_frozen BK292.out 1
                                go_wp2_with (first | ((with_reducible refine gate_callee (f := 24) rfl ?_); refine goesL_ (some 90) rfl rfl Try.func24 (by kernel_rfl) rfl #[.agg #[.slice Ao35 t306.length co35, .slice Ao40 t307.length co40], .int .i64 1] rfl (by (try simp only [List.map_toArray, List.map_cons, List.map_nil]); first | done | rfl | (simp only [List.length_drop, List.length_take]; rfl)) ?_; (with_reducible refine (laws_heldDisk.calls kj107 _ _ t306 _ _ t307 1 t324 _ ?side1 ?side2 ?side3 ?side4 A154.out).mono ?_); (case side1 => repeat (first | exact (Kd.R_reads' HO_293000.out).2.2 | (with_reducible refine Kd.C_alloc ?_ _))); (case side2 => exact (Kd.R_reads' HO_293000.out).2.1); (case side3 => repeat (first | exact (Kd.R_reads' HO_293001.out).2.2 | (with_reducible refine Kd.C_alloc ?_ _))); (case side4 => exact (Kd.R_reads' HO_293001.out).2.1); rintro e w168 ⟨rfl, hb⟩; refine ⟨_, rfl, ?_⟩; have n0_ := Aside0.mk (Kd.R_below (by (with_reducible repeat (first | apply Kd.R_alloc)); exact HO_278000.out) hb); have n1_ := Aside0.mk (Kd.R_below (by (with_reducible repeat (first | apply Kd.R_alloc)); exact HO_278001.out) hb); have n2_ := Aside0.mk (Kd.R_below (by (with_reducible repeat (first | apply Kd.R_alloc)); exact HO_285000.out) hb); have n3_ := Aside0.mk (Kd.R_below (by (with_reducible repeat (first | apply Kd.R_alloc)); exact HO_285001.out) hb); have n4_ := Aside0.mk (Kd.R_below (by (with_reducible repeat (first | apply Kd.R_alloc)); exact HO_293000.out) hb); have n5_ := Aside0.mk (Kd.R_below (by (with_reducible repeat (first | apply Kd.R_alloc)); exact HO_293001.out) hb); have n6_ := Aside0.mk (Kd.R_below (by (with_reducible repeat (first | apply Kd.R_alloc)); exact HO_323000.out) hb); have n7_ := Aside0.mk (Kd.R_below (by (with_reducible repeat (first | apply Kd.R_alloc)); exact HO_323001.out) hb); have n8_ := Aside0.mk (blk_below (g := gb262) (o := .cells #[.slice A0_0 l0_0.length c0_0, .slice A0_1 l0_1.length c0_1] 30 (0, 0)) (by (with_reducible repeat (refine blk_alloc ?_ _)); exact BK262.out) hb); have n9_ := Aside0.mk (blk_below (g := gb277) (o := .cells #[.slice Ao21 t270.length co21, .slice Ao24 t273.length co24] 34 (0, 0)) (by (with_reducible repeat (refine blk_alloc ?_ _)); exact BK277.out) hb); have n10_ := Aside0.mk (blk_below (g := gb284) (o := .cells #[.slice Ao28 t302.length co28, .slice Ao32 t303.length co32] 34 (0, 0)) (by (with_reducible repeat (refine blk_alloc ?_ _)); exact BK284.out) hb); have n11_ := Aside0.mk (blk_below (g := gb292) (o := .cells #[.slice Ao35 t306.length co35, .slice Ao40 t307.length co40] 34 (0, 0)) (by (with_reducible repeat (refine blk_alloc ?_ _)); exact BK292.out) hb); have n12_ := Aside0.mk (blk_below (g := gb322) (o := .cells #[.slice Ao124 t315.length co124, .slice Ao130 t318.length co130] 34 (0, 0)) (by (with_reducible repeat (refine blk_alloc ?_ _)); exact BK322.out) hb); have n13_ := Aside0.mk (below_step (by repeat (first | (with_reducible first | exact HB.out | apply below_alloc | refine below_set ?_ GE262.out | refine below_set ?_ GE277.out | refine below_set ?_ GE284.out | refine below_set ?_ GE292.out | refine below_set ?_ GE322.out) | exact HB.out)) hb); clear HO_278000; clear HO_278001; clear HO_285000; clear HO_285001; clear HO_293000; clear HO_293001; clear HO_323000; clear HO_323001; clear BK262; clear BK277; clear BK284; clear BK292; clear BK322; clear HB; have HO_278000 := n0_; have HO_278001 := n1_; have HO_285000 := n2_; have HO_285001 := n3_; have HO_293000 := n4_; have HO_293001 := n5_; have HO_323000 := n6_; have HO_323001 := n7_; have BK262 := n8_; have BK277 := n9_; have BK284 := n10_; have BK292 := n11_; have BK322 := n12_; have HB := n13_; clear n0_ n1_ n2_ n3_ n4_ n5_ n6_ n7_ n8_ n9_ n10_ n11_ n12_ n13_; (try clear hb); (try clear hb2); (try clear hk); (try clear hi)))
                                go_ret
                                exact ⟨by first | rfl | (simp [errW_none, errW_some] <;> rfl) | (simp [*, errW_none, errW_some] <;> rfl), by repeat (first | (with_reducible first | exact HB.out | apply below_alloc | refine below_set ?_ GE262.out | refine below_set ?_ GE277.out | refine below_set ?_ GE284.out | refine below_set ?_ GE292.out | refine below_set ?_ GE322.out) | exact HB.out)⟩
                              · rw [if_neg c162] at H
                                have c162b0 : (t324 == t305) = false := beq_eq_false_iff_ne.mpr c162
                                have c162b1 : (t324 != t305) = true := bne_iff_ne.mpr c162
                                obtain rfl := Option.some.inj H
                                have hnb169 := NB292_262.out
                                have hnc169 := NB262_292.out
                                have hnb170 := NB292_277.out
                                have hnc170 := NB277_292.out
                                have hnb171 := NB292_284.out
                                have hnc171 := NB284_292.out
                                have hnb172 := NB292_322.out
                                have hnc172 := NB322_292.out
                                have hcz173_0 : wc.cell? ⟨gb292, 0, none⟩ = some (.slice Ao35 t306.length co35) := (blk_cell BK292.out 0).trans rfl
                                have hcz173_1 : wc.cell? ⟨gb292, 1, none⟩ = some (.slice Ao40 t307.length co40) := (blk_cell BK292.out 1).trans rfl
                                have hfz173_0 := blk_frozen BK292.out 0
                                have hfz173_1 := blk_frozen BK292.out 1
                                go_wp2_with (first | ((with_reducible refine gate_callee (f := 24) rfl ?_); refine goesL_ (some 90) rfl rfl Try.func24 (by kernel_rfl) rfl #[.agg #[.slice Ao35 t306.length co35, .slice Ao40 t307.length co40], .int .i64 1] rfl (by (try simp only [List.map_toArray, List.map_cons, List.map_nil]); first | done | rfl | (simp only [List.length_drop, List.length_take]; rfl)) ?_; (with_reducible refine (laws_heldDisk.calls kj107 _ _ t306 _ _ t307 1 t324 _ ?side1 ?side2 ?side3 ?side4 A154.out).mono ?_); (case side1 => repeat (first | exact (Kd.R_reads' HO_293000.out).2.2 | (with_reducible refine Kd.C_alloc ?_ _))); (case side2 => exact (Kd.R_reads' HO_293000.out).2.1); (case side3 => repeat (first | exact (Kd.R_reads' HO_293001.out).2.2 | (with_reducible refine Kd.C_alloc ?_ _))); (case side4 => exact (Kd.R_reads' HO_293001.out).2.1); rintro e w174 ⟨rfl, hb⟩; refine ⟨_, rfl, ?_⟩; have n0_ := Aside0.mk (Kd.R_below (by (with_reducible repeat (first | apply Kd.R_alloc)); exact HO_278000.out) hb); have n1_ := Aside0.mk (Kd.R_below (by (with_reducible repeat (first | apply Kd.R_alloc)); exact HO_278001.out) hb); have n2_ := Aside0.mk (Kd.R_below (by (with_reducible repeat (first | apply Kd.R_alloc)); exact HO_285000.out) hb); have n3_ := Aside0.mk (Kd.R_below (by (with_reducible repeat (first | apply Kd.R_alloc)); exact HO_285001.out) hb); have n4_ := Aside0.mk (Kd.R_below (by (with_reducible repeat (first | apply Kd.R_alloc)); exact HO_293000.out) hb); have n5_ := Aside0.mk (Kd.R_below (by (with_reducible repeat (first | apply Kd.R_alloc)); exact HO_293001.out) hb); have n6_ := Aside0.mk (Kd.R_below (by (with_reducible repeat (first | apply Kd.R_alloc)); exact HO_323000.out) hb); have n7_ := Aside0.mk (Kd.R_below (by (with_reducible repeat (first | apply Kd.R_alloc)); exact HO_323001.out) hb); have n8_ := Aside0.mk (blk_below (g := gb262) (o := .cells #[.slice A0_0 l0_0.length c0_0, .slice A0_1 l0_1.length c0_1] 30 (0, 0)) (by (with_reducible repeat (refine blk_alloc ?_ _)); exact BK262.out) hb); have n9_ := Aside0.mk (blk_below (g := gb277) (o := .cells #[.slice Ao21 t270.length co21, .slice Ao24 t273.length co24] 34 (0, 0)) (by (with_reducible repeat (refine blk_alloc ?_ _)); exact BK277.out) hb); have n10_ := Aside0.mk (blk_below (g := gb284) (o := .cells #[.slice Ao28 t302.length co28, .slice Ao32 t303.length co32] 34 (0, 0)) (by (with_reducible repeat (refine blk_alloc ?_ _)); exact BK284.out) hb); have n11_ := Aside0.mk (blk_below (g := gb292) (o := .cells #[.slice Ao35 t306.length co35, .slice Ao40 t307.length co40] 34 (0, 0)) (by (with_reducible repeat (refine blk_alloc ?_ _)); exact BK292.out) hb); have n12_ := Aside0.mk (blk_below (g := gb322) (o := .cells #[.slice Ao124 t315.length co124, .slice Ao130 t318.length co130] 34 (0, 0)) (by (with_reducible repeat (refine blk_alloc ?_ _)); exact BK322.out) hb); have n13_ := Aside0.mk (below_step (by repeat (first | (with_reducible first | exact HB.out | apply below_alloc | refine below_set ?_ GE262.out | refine below_set ?_ GE277.out | refine below_set ?_ GE284.out | refine below_set ?_ GE292.out | refine below_set ?_ GE322.out) | exact HB.out)) hb); clear HO_278000; clear HO_278001; clear HO_285000; clear HO_285001; clear HO_293000; clear HO_293001; clear HO_323000; clear HO_323001; clear BK262; clear BK277; clear BK284; clear BK292; clear BK322; clear HB; have HO_278000 := n0_; have HO_278001 := n1_; have HO_285000 := n2_; have HO_285001 := n3_; have HO_293000 := n4_; have HO_293001 := n5_; have HO_323000 := n6_; have HO_323001 := n7_; have BK262 := n8_; have BK277 := n9_; have BK284 := n10_; have BK292 := n11_; have BK322 := n12_; have HB := n13_; clear n0_ n1_ n2_ n3_ n4_ n5_ n6_ n7_ n8_ n9_ n10_ n11_ n12_ n13_; (try clear hb); (try clear hb2); (try clear hk); (try clear hi)))
                                go_ret
                                exact ⟨by first | rfl | (simp [errW_none, errW_some] <;> rfl) | (simp [*, errW_none, errW_some] <;> rfl), by repeat (first | (with_reducible first | exact HB.out | apply below_alloc | refine below_set ?_ GE262.out | refine below_set ?_ GE277.out | refine below_set ?_ GE284.out | refine below_set ?_ GE292.out | refine below_set ?_ GE322.out) | exact HB.out)⟩
                    · rw [if_neg c105] at H
                      have c105b0 : (t308 == t305) = false := beq_eq_false_iff_ne.mpr c105
                      have c105b1 : (t308 != t305) = true := bne_iff_ne.mpr c105
                      obtain rfl := Option.some.inj H
                      have hnb175 := NB292_262.out
                      have hnc175 := NB262_292.out
                      have hnb176 := NB292_277.out
                      have hnc176 := NB277_292.out
                      have hnb177 := NB292_284.out
                      have hnc177 := NB284_292.out
                      have hcz178_0 : wc.cell? ⟨gb292, 0, none⟩ = some (.slice Ao35 t285.length co35) := (blk_cell BK292.out 0).trans rfl
                      have hcz178_1 : wc.cell? ⟨gb292, 1, none⟩ = some (.slice Ao40 t288.length co40) := (blk_cell BK292.out 1).trans rfl
                      have hfz178_0 := blk_frozen BK292.out 0
                      have hfz178_1 := blk_frozen BK292.out 1
                      go_wp2_with (first | ((with_reducible refine gate_callee (f := 19) rfl ?_); refine goesL_ (some 64) rfl rfl Try.func19 (by kernel_rfl) rfl #[.agg #[.slice Ao35 t285.length co35, .slice Ao40 t288.length co40], .int .i64 1] rfl (by (try simp only [List.map_toArray, List.map_cons, List.map_nil]); first | done | rfl | (simp only [List.length_drop, List.length_take]; rfl)) ?_; (with_reducible refine (laws_markDisk.calls kj63 (fun k_ => some k_ = (.slice Ao35 t285.length co35 : Value).ownBlock) (.slice Ao35 t285.length co35) t285 (fun k_ => some k_ = (.slice Ao40 t288.length co40 : Value).ownBlock) (.slice Ao40 t288.length co40) t288 1 t305 t306 t307 w _ ?side1 ?side2 ?side3 ?side4 ?side5 A95.out).mono ?_); (case side1 => repeat (first | (with_reducible first | exact HB.out | apply below_alloc | refine below_set ?_ GE262.out | refine below_set ?_ GE277.out | refine below_set ?_ GE284.out | refine below_set ?_ GE292.out) | exact HB.out)); (case side2 => exact Kd.R_tight rfl HO_293000.out); (case side3 => exact fun k_ e_ => (HO_293000.out.1 k_ e_.symm).2.2.2.2); (case side4 => exact Kd.R_tight rfl HO_293001.out); (case side5 => exact fun k_ e_ => (HO_293001.out.1 k_ e_.symm).2.2.2.2); rintro e w179 ⟨rfl, hy0, hy1, hb, hkp⟩; refine ⟨_, rfl, ?_⟩; have n0_ := Aside0.mk (Kd.R_mono (ok' := fun k_ => some k_ ≠ (.slice Ao24 t273.length co24 : Value).ownBlock ∧ some k_ ≠ (.slice Ao28 t302.length co28 : Value).ownBlock ∧ some k_ ≠ (.slice Ao32 t303.length co32 : Value).ownBlock ∧ some k_ ≠ (.slice Ao35 t285.length co35 : Value).ownBlock ∧ some k_ ≠ (.slice Ao40 t288.length co40 : Value).ownBlock) (Kd.R_keptB (HO_278000.out) hkp (fun k_ hk_ hs_ => Or.elim hs_ (fun e_ => (hk_.2.2.2.1) e_) (fun e_ => (hk_.2.2.2.2) e_))) (fun k_ hk_ => ⟨hk_.1.1, hk_.1.2.1, hk_.1.2.2.1, hk_.1.2.2.2.1, hk_.1.2.2.2.2⟩)); have n1_ := Aside0.mk (Kd.R_mono (ok' := fun k_ => some k_ ≠ (.slice Ao21 t270.length co21 : Value).ownBlock ∧ some k_ ≠ (.slice Ao28 t302.length co28 : Value).ownBlock ∧ some k_ ≠ (.slice Ao32 t303.length co32 : Value).ownBlock ∧ some k_ ≠ (.slice Ao35 t285.length co35 : Value).ownBlock ∧ some k_ ≠ (.slice Ao40 t288.length co40 : Value).ownBlock) (Kd.R_keptB (HO_278001.out) hkp (fun k_ hk_ hs_ => Or.elim hs_ (fun e_ => (hk_.2.2.2.1) e_) (fun e_ => (hk_.2.2.2.2) e_))) (fun k_ hk_ => ⟨hk_.1.1, hk_.1.2.1, hk_.1.2.2.1, hk_.1.2.2.2.1, hk_.1.2.2.2.2⟩)); have n2_ := Aside0.mk (Kd.R_mono (ok' := fun k_ => some k_ ≠ (.slice Ao21 t270.length co21 : Value).ownBlock ∧ some k_ ≠ (.slice Ao24 t273.length co24 : Value).ownBlock ∧ some k_ ≠ (.slice Ao32 t303.length co32 : Value).ownBlock ∧ some k_ ≠ (.slice Ao35 t285.length co35 : Value).ownBlock ∧ some k_ ≠ (.slice Ao40 t288.length co40 : Value).ownBlock) (Kd.R_keptB (HO_285000.out) hkp (fun k_ hk_ hs_ => Or.elim hs_ (fun e_ => (hk_.2.2.2.1) e_) (fun e_ => (hk_.2.2.2.2) e_))) (fun k_ hk_ => ⟨hk_.1.1, hk_.1.2.1, hk_.1.2.2.1, hk_.1.2.2.2.1, hk_.1.2.2.2.2⟩)); have n3_ := Aside0.mk (Kd.R_mono (ok' := fun k_ => some k_ ≠ (.slice Ao21 t270.length co21 : Value).ownBlock ∧ some k_ ≠ (.slice Ao24 t273.length co24 : Value).ownBlock ∧ some k_ ≠ (.slice Ao28 t302.length co28 : Value).ownBlock ∧ some k_ ≠ (.slice Ao35 t285.length co35 : Value).ownBlock ∧ some k_ ≠ (.slice Ao40 t288.length co40 : Value).ownBlock) (Kd.R_keptB (HO_285001.out) hkp (fun k_ hk_ hs_ => Or.elim hs_ (fun e_ => (hk_.2.2.2.1) e_) (fun e_ => (hk_.2.2.2.2) e_))) (fun k_ hk_ => ⟨hk_.1.1, hk_.1.2.1, hk_.1.2.2.1, hk_.1.2.2.2.1, hk_.1.2.2.2.2⟩)); have n4_ := Aside0.mk (Kd.R_reok rfl hy0 (fun k_ e_ => HO_293000.out.1 k_ e_)); have n5_ := Aside0.mk (Kd.R_reok rfl hy1 (fun k_ e_ => HO_293001.out.1 k_ e_)); have n6_ := Aside0.mk (blk_kept (by (with_reducible repeat (refine blk_alloc ?_ _)); exact BK262.out) hkp (fun hs_ => Or.elim hs_ (fun e_ => (fun e_ => (Kd.R_ne HO_293000.out BK262.out (by decide)) e_) e_) (fun e_ => (fun e_ => (Kd.R_ne HO_293001.out BK262.out (by decide)) e_) e_))); have n7_ := Aside0.mk (blk_kept (by (with_reducible repeat (refine blk_alloc ?_ _)); exact BK277.out) hkp (fun hs_ => Or.elim hs_ (fun e_ => (fun e_ => (Kd.R_ne HO_293000.out BK277.out (by decide)) e_) e_) (fun e_ => (fun e_ => (Kd.R_ne HO_293001.out BK277.out (by decide)) e_) e_))); have n8_ := Aside0.mk (blk_kept (by (with_reducible repeat (refine blk_alloc ?_ _)); exact BK284.out) hkp (fun hs_ => Or.elim hs_ (fun e_ => (fun e_ => (Kd.R_ne HO_293000.out BK284.out (by decide)) e_) e_) (fun e_ => (fun e_ => (Kd.R_ne HO_293001.out BK284.out (by decide)) e_) e_))); have n9_ := Aside0.mk (blk_kept (by (with_reducible repeat (refine blk_alloc ?_ _)); exact BK292.out) hkp (fun hs_ => Or.elim hs_ (fun e_ => (fun e_ => (Kd.R_ne HO_293000.out BK292.out (by decide)) e_) e_) (fun e_ => (fun e_ => (Kd.R_ne HO_293001.out BK292.out (by decide)) e_) e_))); have n10_ := Aside0.mk (hb); clear HO_278000; clear HO_278001; clear HO_285000; clear HO_285001; clear HO_293000; clear HO_293001; clear BK262; clear BK277; clear BK284; clear BK292; clear HB; have HO_278000 := n0_; have HO_278001 := n1_; have HO_285000 := n2_; have HO_285001 := n3_; have HO_293000 := n4_; have HO_293001 := n5_; have BK262 := n6_; have BK277 := n7_; have BK284 := n8_; have BK292 := n9_; have HB := n10_; clear n0_ n1_ n2_ n3_ n4_ n5_ n6_ n7_ n8_ n9_ n10_; (try clear hb); (try clear hkp); (try clear hy0); (try clear hy1); have hcz180_0 : w179.cell? ⟨gb292, 0, none⟩ = some (.slice Ao35 t285.length co35) := (blk_cell BK292.out 0).trans rfl; have hcz180_1 : w179.cell? ⟨gb292, 1, none⟩ = some (.slice Ao40 t288.length co40) := (blk_cell BK292.out 1).trans rfl; have hfz180_0 := blk_frozen BK292.out 0; have hfz180_1 := blk_frozen BK292.out 1) | ((with_reducible refine gate_callee (f := 24) rfl ?_); refine goesL_ (some 67) rfl rfl Try.func24 (by kernel_rfl) rfl #[.agg #[.slice Ao35 t306.length co35, .slice Ao40 t307.length co40], .int .i64 1] rfl (by (try simp only [List.map_toArray, List.map_cons, List.map_nil]); first | done | (rw [show t306.length = t285.length from (Kd.R_reads' HO_293000.out).1.symm, show t307.length = t288.length from (Kd.R_reads' HO_293001.out).1.symm] <;> rfl) | rfl | (simp only [List.length_drop, List.length_take]; rfl)) ?_; (with_reducible refine (laws_heldDisk.calls kj63 _ _ t306 _ _ t307 1 t308 _ ?side1 ?side2 ?side3 ?side4 A96.out).mono ?_); (case side1 => repeat (first | exact (Kd.R_reads' HO_293000.out).2.2 | (with_reducible refine Kd.C_alloc ?_ _))); (case side2 => rw [show t306.length = t285.length from (Kd.R_reads' HO_293000.out).1.symm]; exact (Kd.R_reads' HO_293000.out).2.1); (case side3 => repeat (first | exact (Kd.R_reads' HO_293001.out).2.2 | (with_reducible refine Kd.C_alloc ?_ _))); (case side4 => rw [show t307.length = t288.length from (Kd.R_reads' HO_293001.out).1.symm]; exact (Kd.R_reads' HO_293001.out).2.1); rintro e w181 ⟨rfl, hb⟩; refine ⟨_, rfl, ?_⟩; have n0_ := Aside0.mk (Kd.R_below (by (with_reducible repeat (first | apply Kd.R_alloc)); exact HO_278000.out) hb); have n1_ := Aside0.mk (Kd.R_below (by (with_reducible repeat (first | apply Kd.R_alloc)); exact HO_278001.out) hb); have n2_ := Aside0.mk (Kd.R_below (by (with_reducible repeat (first | apply Kd.R_alloc)); exact HO_285000.out) hb); have n3_ := Aside0.mk (Kd.R_below (by (with_reducible repeat (first | apply Kd.R_alloc)); exact HO_285001.out) hb); have n4_ := Aside0.mk (Kd.R_below (by (with_reducible repeat (first | apply Kd.R_alloc)); exact HO_293000.out) hb); have n5_ := Aside0.mk (Kd.R_below (by (with_reducible repeat (first | apply Kd.R_alloc)); exact HO_293001.out) hb); have n6_ := Aside0.mk (blk_below (g := gb262) (o := .cells #[.slice A0_0 l0_0.length c0_0, .slice A0_1 l0_1.length c0_1] 30 (0, 0)) (by (with_reducible repeat (refine blk_alloc ?_ _)); exact BK262.out) hb); have n7_ := Aside0.mk (blk_below (g := gb277) (o := .cells #[.slice Ao21 t270.length co21, .slice Ao24 t273.length co24] 34 (0, 0)) (by (with_reducible repeat (refine blk_alloc ?_ _)); exact BK277.out) hb); have n8_ := Aside0.mk (blk_below (g := gb284) (o := .cells #[.slice Ao28 t302.length co28, .slice Ao32 t303.length co32] 34 (0, 0)) (by (with_reducible repeat (refine blk_alloc ?_ _)); exact BK284.out) hb); have n9_ := Aside0.mk (blk_below (g := gb292) (o := .cells #[.slice Ao35 t285.length co35, .slice Ao40 t288.length co40] 34 (0, 0)) (by (with_reducible repeat (refine blk_alloc ?_ _)); exact BK292.out) hb); have n10_ := Aside0.mk (below_step (by repeat (first | (with_reducible first | exact HB.out | apply below_alloc | refine below_set ?_ GE262.out | refine below_set ?_ GE277.out | refine below_set ?_ GE284.out | refine below_set ?_ GE292.out) | exact HB.out)) hb); clear HO_278000; clear HO_278001; clear HO_285000; clear HO_285001; clear HO_293000; clear HO_293001; clear BK262; clear BK277; clear BK284; clear BK292; clear HB; have HO_278000 := n0_; have HO_278001 := n1_; have HO_285000 := n2_; have HO_285001 := n3_; have HO_293000 := n4_; have HO_293001 := n5_; have BK262 := n6_; have BK277 := n7_; have BK284 := n8_; have BK292 := n9_; have HB := n10_; clear n0_ n1_ n2_ n3_ n4_ n5_ n6_ n7_ n8_ n9_ n10_; (try clear hb); (try clear hb2); (try clear hk); (try clear hi)))
                      go_ret
                      exact ⟨by first | rfl | (simp [errW_none, errW_some] <;> rfl) | (simp [*, errW_none, errW_some] <;> rfl), by repeat (first | (with_reducible first | exact HB.out | apply below_alloc | refine below_set ?_ GE262.out | refine below_set ?_ GE277.out | refine below_set ?_ GE284.out | refine below_set ?_ GE292.out) | exact HB.out)⟩
          · replace c62 := Bool.eq_false_iff.mpr c62
            subst c62
            have H1 : (some false) = some r := by rw [if_neg (show ¬ (false = true) by decide)] at H; exact H
            clear H
            have H := H1
            clear H1
            obtain rfl := Option.some.inj H
            try go_wp2
            have n0_ := Aside0.mk (Kd.R_drew HO_278000.out)
            have n1_ := Aside0.mk (Kd.R_drew HO_278001.out)
            have n2_ := Aside0.mk (Kd.R_drew HO_285000.out)
            have n3_ := Aside0.mk (Kd.R_drew HO_285001.out)
            have n4_ := Aside0.mk (Kd.R_drew HO_293000.out)
            have n5_ := Aside0.mk (Kd.R_drew HO_293001.out)
            have n6_ := Aside0.mk (blk_drew BK262.out)
            have n7_ := Aside0.mk (blk_drew BK277.out)
            have n8_ := Aside0.mk (blk_drew BK284.out)
            have n9_ := Aside0.mk (blk_drew BK292.out)
            have n10_ := Aside0.mk (below_drew1 HB.out)
            clear HO_278000
            clear HO_278001
            clear HO_285000
            clear HO_285001
            clear HO_293000
            clear HO_293001
            clear BK262
            clear BK277
            clear BK284
            clear BK292
            clear HB
            have HO_278000 := n0_
            have HO_278001 := n1_
            have HO_285000 := n2_
            have HO_285001 := n3_
            have HO_293000 := n4_
            have HO_293001 := n5_
            have BK262 := n6_
            have BK277 := n7_
            have BK284 := n8_
            have BK292 := n9_
            have HB := n10_
            clear n0_ n1_ n2_ n3_ n4_ n5_ n6_ n7_ n8_ n9_ n10_
            refine start_ (n := 5) (S := fun w' => w'.cell? ⟨gb284, 0, none⟩ = some (.slice Ao28 t278.length co28) ∧ w'.cell? ⟨gb284, 1, none⟩ = some (.slice Ao32 t281.length co32) ∧ w'.cell? ⟨gb262, 0, none⟩ = some (.slice A0_0 l0_0.length c0_0) ∧ w'.cell? ⟨gb262, 1, none⟩ = some (.slice A0_1 l0_1.length c0_1)) (ds := []) #[false, false, false, false, false] (by kernel_rfl) rfl rfl ⟨(blk_cell BK284.out 0).trans rfl, (blk_cell BK284.out 1).trans rfl, (blk_cell BK262.out 0).trans rfl, (blk_cell BK262.out 1).trans rfl⟩ (fun hHeld => ?_)
            generalize wc.drew = w182 at HO_278000 HO_278001 HO_285000 HO_285001 HO_293000 HO_293001 BK262 BK277 BK284 BK292 HB hHeld ⊢
            refine take_ (i := 0) (N := some 41) (v := ?_) (a' := ?_) #[true, false, false, false, false] rfl rfl (by kernel_rfl) (fun _ _ _ h => h) (Or.inl ⟨by rfl, ?_⟩) hHeld ?_ ?_
            rotate_left
            · rintro w' ⟨s0, s1, s2, s3⟩
              go_simp
              with_reducible rfl
            rotate_left
            · simp only [Act.put, List.setIfInBounds_toArray, List.set_cons_zero, List.set_cons_succ, i64_w, i32_w]
              rfl
            refine take_ (i := 1) (N := some 42) (v := ?_) (a' := ?_) #[true, true, false, false, false] rfl rfl (by kernel_rfl) (fun _ _ _ h => h) (Or.inl ⟨by rfl, ?_⟩) hHeld ?_ ?_
            rotate_left
            · rintro w' ⟨s0, s1, s2, s3⟩
              go_simp
              with_reducible rfl
            rotate_left
            · simp only [Act.put, List.setIfInBounds_toArray, List.set_cons_zero, List.set_cons_succ, i64_w, i32_w]
              rfl
            refine one_ (i := 2) (N := some 43) #[true, true, true, false, false] rfl rfl (by kernel_rfl) (by decide) (fun K hK => ?_)
            refine goes_ Try.func15 (by kernel_rfl) rfl #[.agg #[.slice A0_0 l0_0.length c0_0, .slice A0_1 l0_1.length c0_1]] (by rfl) rfl rfl (by (try simp only [List.map_toArray, List.map_cons, List.map_nil]); first | done | rfl | (simp only [List.length_drop, List.length_take]; rfl)) ?_
            with_reducible refine (laws_toDisk.calls kj10 _ _ l0_0 _ _ l0_1 t294 t297 _ ?side1 ?side2 ?side3 ?side4 A60.out).mono ?_
            (case side1 => repeat (first | exact (Kd.C_below HR0_0.out HB.out) | (with_reducible refine Kd.C_alloc ?_ _)))
            (case side2 => exact HC0_0.out)
            (case side3 => repeat (first | exact (Kd.C_below HR0_1.out HB.out) | (with_reducible refine Kd.C_alloc ?_ _)))
            (case side4 => exact HC0_1.out)
            rintro e w183 ⟨v295, v298, rfl, ho0, ho1, hb⟩
            refine ⟨_, rfl, ?_⟩
            have n0_ := Aside0.mk (Kd.R_mono (Kd.R_told (Kd.R_told (Kd.R_old (by (with_reducible repeat (first | apply Kd.R_alloc)); exact HO_278000.out) hb) (Kd.R_base ho0)) (Kd.R_base ho1)) (fun _ h_ => h_.1))
            have n1_ := Aside0.mk (Kd.R_mono (Kd.R_told (Kd.R_told (Kd.R_old (by (with_reducible repeat (first | apply Kd.R_alloc)); exact HO_278001.out) hb) (Kd.R_base ho0)) (Kd.R_base ho1)) (fun _ h_ => h_.1))
            have n2_ := Aside0.mk (Kd.R_mono (Kd.R_told (Kd.R_told (Kd.R_old (by (with_reducible repeat (first | apply Kd.R_alloc)); exact HO_285000.out) hb) (Kd.R_base ho0)) (Kd.R_base ho1)) (fun _ h_ => h_.1))
            have n3_ := Aside0.mk (Kd.R_mono (Kd.R_told (Kd.R_told (Kd.R_old (by (with_reducible repeat (first | apply Kd.R_alloc)); exact HO_285001.out) hb) (Kd.R_base ho0)) (Kd.R_base ho1)) (fun _ h_ => h_.1))
            have n4_ := Aside0.mk (Kd.R_mono (Kd.R_told (Kd.R_told (Kd.R_old (by (with_reducible repeat (first | apply Kd.R_alloc)); exact HO_293000.out) hb) (Kd.R_base ho0)) (Kd.R_base ho1)) (fun _ h_ => h_.1))
            have n5_ := Aside0.mk (Kd.R_mono (Kd.R_told (Kd.R_told (Kd.R_old (by (with_reducible repeat (first | apply Kd.R_alloc)); exact HO_293001.out) hb) (Kd.R_base ho0)) (Kd.R_base ho1)) (fun _ h_ => h_.1))
            have n6_ := Aside0.mk (Kd.R_lower (Kd.R_new' (Kd.R_new' (Kd.R_new' (Kd.R_new' (Kd.R_new' (Kd.R_new' ho0 (Kd.R_lt (by (with_reducible repeat (first | apply Kd.R_alloc)); exact HO_278000.out))) (Kd.R_lt (by (with_reducible repeat (first | apply Kd.R_alloc)); exact HO_278001.out))) (Kd.R_lt (by (with_reducible repeat (first | apply Kd.R_alloc)); exact HO_285000.out))) (Kd.R_lt (by (with_reducible repeat (first | apply Kd.R_alloc)); exact HO_285001.out))) (Kd.R_lt (by (with_reducible repeat (first | apply Kd.R_alloc)); exact HO_293000.out))) (Kd.R_lt (by (with_reducible repeat (first | apply Kd.R_alloc)); exact HO_293001.out))) (below_size (by repeat (first | (with_reducible first | exact HB.out | apply below_alloc | refine below_set ?_ GE262.out | refine below_set ?_ GE277.out | refine below_set ?_ GE284.out | refine below_set ?_ GE292.out) | exact HB.out))))
            have n7_ := Aside0.mk (Kd.R_lower (Kd.R_new' (Kd.R_new' (Kd.R_new' (Kd.R_new' (Kd.R_new' (Kd.R_new' ho1 (Kd.R_lt (by (with_reducible repeat (first | apply Kd.R_alloc)); exact HO_278000.out))) (Kd.R_lt (by (with_reducible repeat (first | apply Kd.R_alloc)); exact HO_278001.out))) (Kd.R_lt (by (with_reducible repeat (first | apply Kd.R_alloc)); exact HO_285000.out))) (Kd.R_lt (by (with_reducible repeat (first | apply Kd.R_alloc)); exact HO_285001.out))) (Kd.R_lt (by (with_reducible repeat (first | apply Kd.R_alloc)); exact HO_293000.out))) (Kd.R_lt (by (with_reducible repeat (first | apply Kd.R_alloc)); exact HO_293001.out))) (below_size (by repeat (first | (with_reducible first | exact HB.out | apply below_alloc | refine below_set ?_ GE262.out | refine below_set ?_ GE277.out | refine below_set ?_ GE284.out | refine below_set ?_ GE292.out) | exact HB.out))))
            have n8_ := Aside0.mk (blk_below (g := gb262) (o := .cells #[.slice A0_0 l0_0.length c0_0, .slice A0_1 l0_1.length c0_1] 30 (0, 0)) (by (with_reducible repeat (refine blk_alloc ?_ _)); exact BK262.out) hb)
            have n9_ := Aside0.mk (blk_below (g := gb277) (o := .cells #[.slice Ao21 t270.length co21, .slice Ao24 t273.length co24] 34 (0, 0)) (by (with_reducible repeat (refine blk_alloc ?_ _)); exact BK277.out) hb)
            have n10_ := Aside0.mk (blk_below (g := gb284) (o := .cells #[.slice Ao28 t278.length co28, .slice Ao32 t281.length co32] 34 (0, 0)) (by (with_reducible repeat (refine blk_alloc ?_ _)); exact BK284.out) hb)
            have n11_ := Aside0.mk (blk_below (g := gb292) (o := .cells #[.slice Ao35 t285.length co35, .slice Ao40 t288.length co40] 34 (0, 0)) (by (with_reducible repeat (refine blk_alloc ?_ _)); exact BK292.out) hb)
            have n12_ := Aside0.mk (below_step (by repeat (first | (with_reducible first | exact HB.out | apply below_alloc | refine below_set ?_ GE262.out | refine below_set ?_ GE277.out | refine below_set ?_ GE284.out | refine below_set ?_ GE292.out) | exact HB.out)) hb)
            clear HO_278000
            clear HO_278001
            clear HO_285000
            clear HO_285001
            clear HO_293000
            clear HO_293001
            clear BK262
            clear BK277
            clear BK284
            clear BK292
            clear HB
            have HO_278000 := n0_
            have HO_278001 := n1_
            have HO_285000 := n2_
            have HO_285001 := n3_
            have HO_293000 := n4_
            have HO_293001 := n5_
            have HO296 := n6_
            have HO299 := n7_
            have BK262 := n8_
            have BK277 := n9_
            have BK284 := n10_
            have BK292 := n11_
            have HB := n12_
            clear n0_ n1_ n2_ n3_ n4_ n5_ n6_ n7_ n8_ n9_ n10_ n11_ n12_
            (try clear hb)
            (try clear hb2)
            (try clear hk)
            (try clear hi)
            (try clear ho0)
            (try clear ho1)
            obtain ⟨Ao184, co184, eo184⟩ := Kd.R_slice HO296.out
            (first | subst eo184 | (injection eo184 with f1_ f2_ f3_; have f4_ := f1_.symm; have f5_ := f3_.symm; clear f1_ f2_ f3_; subst f4_; subst f5_))
            obtain ⟨Ao185, co185, eo185⟩ := Kd.R_slice HO299.out
            (first | subst eo185 | (injection eo185 with f1_ f2_ f3_; have f4_ := f1_.symm; have f5_ := f3_.symm; clear f1_ f2_ f3_; subst f4_; subst f5_))
            refine hK.out _ _ ⟨(blk_cell BK284.out 0).trans rfl, (blk_cell BK284.out 1).trans rfl, (blk_cell BK262.out 0).trans rfl, (blk_cell BK262.out 1).trans rfl⟩ (fun hHeld => ?_)
            clear hK K
            refine norm_ (a' := ?_) ?_ ?_
            rotate_left
            · show Act.put _ (some 43) _ = _
              simp only [Act.put, List.setIfInBounds_toArray, List.set_cons_zero, List.set_cons_succ, i64_w, i32_w]
              rfl
            refine one_ (i := 3) (N := some 44) #[true, true, true, true, false] rfl rfl (by kernel_rfl) (by decide) (fun K hK => ?_)
            refine goes_ Try.func18 (by kernel_rfl) rfl #[.agg #[.slice Ao28 t278.length co28, .slice Ao32 t281.length co32], .agg #[.slice Ao184 t294.length co184, .slice Ao185 t297.length co185]] (by rfl) rfl rfl (by (try simp only [List.map_toArray, List.map_cons, List.map_nil]); first | done | rfl | (simp only [List.length_drop, List.length_take]; rfl)) ?_
            with_reducible refine (laws_eqDisk.calls kj10 _ _ t278 _ _ t281 _ _ t294 _ _ t297 false _ ?side1 ?side2 ?side3 ?side4 ?side5 ?side6 ?side7 ?side8 A61.out).mono ?_
            (case side1 => repeat (first | exact (Kd.R_reads' HO_285000.out).2.2 | (with_reducible refine Kd.C_alloc ?_ _)))
            (case side2 => exact (Kd.R_reads' HO_285000.out).2.1)
            (case side3 => repeat (first | exact (Kd.R_reads' HO_285001.out).2.2 | (with_reducible refine Kd.C_alloc ?_ _)))
            (case side4 => exact (Kd.R_reads' HO_285001.out).2.1)
            (case side5 => repeat (first | exact (Kd.R_reads' HO296.out).2.2 | (with_reducible refine Kd.C_alloc ?_ _)))
            (case side6 => exact (Kd.R_reads' HO296.out).2.1)
            (case side7 => repeat (first | exact (Kd.R_reads' HO299.out).2.2 | (with_reducible refine Kd.C_alloc ?_ _)))
            (case side8 => exact (Kd.R_reads' HO299.out).2.1)
            rintro e w186 ⟨rfl, hb⟩
            refine ⟨_, rfl, ?_⟩
            have n0_ := Aside0.mk (Kd.R_below (by (with_reducible repeat (first | apply Kd.R_alloc)); exact HO_278000.out) hb)
            have n1_ := Aside0.mk (Kd.R_below (by (with_reducible repeat (first | apply Kd.R_alloc)); exact HO_278001.out) hb)
            have n2_ := Aside0.mk (Kd.R_below (by (with_reducible repeat (first | apply Kd.R_alloc)); exact HO_285000.out) hb)
            have n3_ := Aside0.mk (Kd.R_below (by (with_reducible repeat (first | apply Kd.R_alloc)); exact HO_285001.out) hb)
            have n4_ := Aside0.mk (Kd.R_below (by (with_reducible repeat (first | apply Kd.R_alloc)); exact HO_293000.out) hb)
            have n5_ := Aside0.mk (Kd.R_below (by (with_reducible repeat (first | apply Kd.R_alloc)); exact HO_293001.out) hb)
            have n6_ := Aside0.mk (Kd.R_below (by (with_reducible repeat (first | apply Kd.R_alloc)); exact HO296.out) hb)
            have n7_ := Aside0.mk (Kd.R_below (by (with_reducible repeat (first | apply Kd.R_alloc)); exact HO299.out) hb)
            have n8_ := Aside0.mk (blk_below (g := gb262) (o := .cells #[.slice A0_0 l0_0.length c0_0, .slice A0_1 l0_1.length c0_1] 30 (0, 0)) (by (with_reducible repeat (refine blk_alloc ?_ _)); exact BK262.out) hb)
            have n9_ := Aside0.mk (blk_below (g := gb277) (o := .cells #[.slice Ao21 t270.length co21, .slice Ao24 t273.length co24] 34 (0, 0)) (by (with_reducible repeat (refine blk_alloc ?_ _)); exact BK277.out) hb)
            have n10_ := Aside0.mk (blk_below (g := gb284) (o := .cells #[.slice Ao28 t278.length co28, .slice Ao32 t281.length co32] 34 (0, 0)) (by (with_reducible repeat (refine blk_alloc ?_ _)); exact BK284.out) hb)
            have n11_ := Aside0.mk (blk_below (g := gb292) (o := .cells #[.slice Ao35 t285.length co35, .slice Ao40 t288.length co40] 34 (0, 0)) (by (with_reducible repeat (refine blk_alloc ?_ _)); exact BK292.out) hb)
            have n12_ := Aside0.mk (below_step (by repeat (first | (with_reducible first | exact HB.out | apply below_alloc | refine below_set ?_ GE262.out | refine below_set ?_ GE277.out | refine below_set ?_ GE284.out | refine below_set ?_ GE292.out) | exact HB.out)) hb)
            clear HO_278000
            clear HO_278001
            clear HO_285000
            clear HO_285001
            clear HO_293000
            clear HO_293001
            clear HO296
            clear HO299
            clear BK262
            clear BK277
            clear BK284
            clear BK292
            clear HB
            have HO_278000 := n0_
            have HO_278001 := n1_
            have HO_285000 := n2_
            have HO_285001 := n3_
            have HO_293000 := n4_
            have HO_293001 := n5_
            have HO296 := n6_
            have HO299 := n7_
            have BK262 := n8_
            have BK277 := n9_
            have BK284 := n10_
            have BK292 := n11_
            have HB := n12_
            clear n0_ n1_ n2_ n3_ n4_ n5_ n6_ n7_ n8_ n9_ n10_ n11_ n12_
            (try clear hb)
            (try clear hb2)
            (try clear hk)
            (try clear hi)
            refine hK.out _ _ ⟨(blk_cell BK284.out 0).trans rfl, (blk_cell BK284.out 1).trans rfl, (blk_cell BK262.out 0).trans rfl, (blk_cell BK262.out 1).trans rfl⟩ (fun hHeld => ?_)
            clear hK K
            refine norm_ (a' := ?_) ?_ ?_
            rotate_left
            · show Act.put _ (some 44) _ = _
              simp only [Act.put, List.setIfInBounds_toArray, List.set_cons_zero, List.set_cons_succ, i64_w, i32_w]
              rfl
            refine pure_ (i := 4) (N := some 45) (v := ?_) (a' := ?_) #[true, true, true, true, true] rfl rfl (by kernel_rfl) (fun _ _ _ h => h) (Or.inl ⟨by rfl, ?_⟩) ?_ ?_
            rotate_left
            · intro w'
              go_simp
              with_reducible rfl
            rotate_left
            · simp only [Act.put, List.setIfInBounds_toArray, List.set_cons_zero, List.set_cons_succ, i64_w, i32_w]
              rfl
            refine done_ (by kernel_rfl) ?_
            try go_wp2
            go_ret
            exact ⟨by first | rfl | (simp [errW_none, errW_some] <;> rfl) | (simp [*, errW_none, errW_some] <;> rfl), by repeat (first | (with_reducible first | exact HB.out | apply below_alloc | refine below_set ?_ GE262.out | refine below_set ?_ GE277.out | refine below_set ?_ GE284.out | refine below_set ?_ GE292.out) | exact HB.out)⟩

/-- THE ONE PURE STATEMENT of laws_FnExactMendDisk: yours. -/
def laws_FnExactMendDisk.Pure : Prop := ∀ (l0_0 : List ByteArray) (l0_1 : List ByteArray), (l0_0.length ≤ maxLen ∧ ∀ a ∈ l0_0, a.size ≤ maxLen) → (l0_1.length ≤ maxLen ∧ ∀ a ∈ l0_1, a.size ≤ maxLen) → ∃ k, laws_FnExactMendDisk.f k l0_0 l0_1 = some true

end Go.Proofs.Ytamiedpgahpihaa.QFnExactMendDisk
