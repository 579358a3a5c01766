-- Written by this session's own program (wip/x/xprint.py, over the kit's printer); Lean checks it.
import Derived.Test.YtmgkflkfoccgkabDoorQFnCodedx0
import Derived.Test.YtmgkflkfoccgkabDoorQFnCodedx1
import Derived.Test.YtmgkflkfoccgkabDoorQFnCodedx4
import Derived.Test.YtmgkflkfoccgkabDoorQFnCodedx5
import Derived.Test.YtmgkflkfoccgkabDoorQFnCodedx6
import Derived.Test.YtmgkflkfoccgkabDoorQFnCodedx7
import Derived.Test.YtmgkflkfoccgkabDoorQFnCodedx8
import Derived.Test.YtmgkflkfoccgkabDoorQFnCodedx9
namespace Go.Proofs.YtmgkflkfoccgkabDoor.QFnCoded
open Go.RowKit Go.Proofs.YtmgkflkfoccgkabDoorW.PrintWords Go.Proofs.YtmgkflkfoccgkabDoorW.PrintLast Go.Proofs.YtmgkflkfoccgkabDoorW.PrintMore
attribute [local go_sem] max2_int min2_int max_two min_two max_three min_three max_four min_four   -- for this text's walks alone
set_option linter.unusedVariables false
set_option linter.unusedSimpArgs false

/-! ### laws_FnCoded: function 3 -/
mutual
def laws_FnCoded.j0 : Nat → List Int → List Int → List Int → ByteArray → Bool → List ByteArray → Bool → Option (Bool)
  | 0, _, _, _, _, _, _, _ => none
  | k + 1, x1, x5, x6, x7, x8, x11, x77 => if x77 = true then (some false) else (if x8 = true then ((impl_DecodeBy.f k x5 x7).bind fun bt379 => (if bt379.2 = true then ((laws_sameInts.f k bt379.1 x6).bind fun t383 => (if t383 = true then (laws_FnCoded.j1 k x1 x5 x11) else (some false))) else (some false))) else (laws_FnCoded.j1 k x1 x5 x11))
def laws_FnCoded.j1 : Nat → List Int → List Int → List ByteArray → Option (Bool)
  | 0, _, _, _ => none
  | k + 1, x1, x5, x11 => laws_FnCoded.l0 k x1 x5 x11 x11 (x11.length : Int) 0
def laws_FnCoded.l0 : Nat → List Int → List Int → List ByteArray → List ByteArray → Int → Int → Option (Bool)
  | 0, _, _, _, _, _, _ => none
  | k + 1, x1, x5, x11, x93, x94, x95 => if x95 < x94 then (if 0 ≤ x95 then (if x95 < (x93.length : Int) then (laws_FnCoded.l1 k x1 x5 x11 x95 (rdOf ByteArray.empty x93 x95) x93 x94 x95 x11 (x11.length : Int) 0) else (none)) else (none)) else ((spec_DrawDecodeBy.f k x1).bind fun bt390 => ((impl_DecodeBy.f k bt390.1 bt390.2).bind fun bt394 => ((spec_DecodeBy.f k bt390.1 bt390.2).bind fun bt398 => (if (bt394.2 != bt398.2) = true then (laws_FnCoded.j4 k bt390.1 bt390.2 bt394.1 bt394.2 true) else ((laws_sameInts.f k bt394.1 bt398.1).bind fun t402 => (laws_FnCoded.j4 k bt390.1 bt390.2 bt394.1 bt394.2 (!t402)))))))
def laws_FnCoded.l1 : Nat → List Int → List Int → List ByteArray → Int → ByteArray → List ByteArray → Int → Int → List ByteArray → Int → Int → Option (Bool)
  | 0, _, _, _, _, _, _, _, _, _, _, _ => none
  | k + 1, x1, x5, x11, x17, x18, x93, x94, x95, x100, x101, x102 => if x102 < x101 then (if 0 ≤ x102 then (if x102 < (x100.length : Int) then (if x17 = x102 then (if 0 ≤ x17 then (if x17 < (x5.length : Int) then (if (x18.size : Int) = (rd x5 x17) then (laws_FnCoded.l1 k x1 x5 x11 x17 x18 x93 x94 x95 x100 x101 (wrap64 (x102 + 1))) else (some false)) else (none)) else (none)) else (if x18.toList = ([] : List UInt8) then (if 0 ≤ x17 then (if x17 < (x5.length : Int) then (if (x18.size : Int) = (rd x5 x17) then (laws_FnCoded.l1 k x1 x5 x11 x17 x18 x93 x94 x95 x100 x101 (wrap64 (x102 + 1))) else (some false)) else (none)) else (none)) else (if ((rdOf ByteArray.empty x100 x102).size : Int) ≥ (x18.size : Int) then (if 0 ≤ (x18.size : Int) then (if (x18.size : Int) ≤ ((rdOf ByteArray.empty x100 x102).size : Int) then (if ((rdOf ByteArray.empty x100 x102).extract 0 x18.size).toList = x18.toList then (some false) else (if 0 ≤ x17 then (if x17 < (x5.length : Int) then (if (x18.size : Int) = (rd x5 x17) then (laws_FnCoded.l1 k x1 x5 x11 x17 x18 x93 x94 x95 x100 x101 (wrap64 (x102 + 1))) else (some false)) else (none)) else (none))) else (none)) else (none)) else (if 0 ≤ x17 then (if x17 < (x5.length : Int) then (if (x18.size : Int) = (rd x5 x17) then (laws_FnCoded.l1 k x1 x5 x11 x17 x18 x93 x94 x95 x100 x101 (wrap64 (x102 + 1))) else (some false)) else (none)) else (none))))) else (none)) else (none)) else (laws_FnCoded.l0 k x1 x5 x11 x93 x94 (wrap64 (x95 + 1)))
def laws_FnCoded.j4 : Nat → List Int → ByteArray → List Int → Bool → Bool → Option (Bool)
  | 0, _, _, _, _, _ => none
  | k + 1, x21, x22, x23, x24, x165 => if x165 = true then (some false) else (if x24 = true then ((impl_EncodeBy.f k x21 x23).bind fun bt403 => (if bt403.2 = true then (some (bt403.1.toList == x22.toList)) else (some false))) else (some true))
end
def laws_FnCoded.f (k : Nat) (l0 : List Int) (l1 : List Int) : Option (Bool) := (laws_big.f l0 l1).bind fun t359 => (if t359 = true then (some true) else ((spec_DrawEncodeBy.f k l0).bind fun bt360 => ((impl_EncodeBy.f k bt360.1 bt360.2).bind fun bt366 => ((spec_EncodeBy.f k bt360.1 bt360.2).bind fun bt368 => ((impl_CodesOf.f k bt360.1).bind fun bt370 => ((spec_CodesOf.f k bt360.1).bind fun bt374 => (if (bt366.2 != bt368.2) = true then (laws_FnCoded.j0 k l1 bt360.1 bt360.2 bt366.1 bt366.2 bt370.1 true) else (if bt366.1.toList = bt368.1.toList then (if (bt370.2 != bt374.2) = true then (laws_FnCoded.j0 k l1 bt360.1 bt360.2 bt366.1 bt366.2 bt370.1 true) else ((laws_sameTexts.f k bt370.1 bt374.1).bind fun t378 => (laws_FnCoded.j0 k l1 bt360.1 bt360.2 bt366.1 bt366.2 bt370.1 (!t378)))) else (laws_FnCoded.j0 k l1 bt360.1 bt360.2 bt366.1 bt366.2 bt370.1 true)))))))))
theorem laws_FnCoded.mono_l : ∀ k, (∀ y0 y1 y2 y3 y4 y5 y6, LeO (laws_FnCoded.j0 k y0 y1 y2 y3 y4 y5 y6) (laws_FnCoded.j0 (k + 1) y0 y1 y2 y3 y4 y5 y6)) ∧ (∀ y0 y1 y2, LeO (laws_FnCoded.j1 k y0 y1 y2) (laws_FnCoded.j1 (k + 1) y0 y1 y2)) ∧ (∀ y0 y1 y2 y3 y4 y5, LeO (laws_FnCoded.l0 k y0 y1 y2 y3 y4 y5) (laws_FnCoded.l0 (k + 1) y0 y1 y2 y3 y4 y5)) ∧ (∀ y0 y1 y2 y3 y4 y5 y6 y7 y8 y9 y10, LeO (laws_FnCoded.l1 k y0 y1 y2 y3 y4 y5 y6 y7 y8 y9 y10) (laws_FnCoded.l1 (k + 1) y0 y1 y2 y3 y4 y5 y6 y7 y8 y9 y10)) ∧ (∀ y0 y1 y2 y3 y4, LeO (laws_FnCoded.j4 k y0 y1 y2 y3 y4) (laws_FnCoded.j4 (k + 1) y0 y1 y2 y3 y4))
  | 0 => ⟨fun _ _ _ _ _ _ _ r h => by simp [laws_FnCoded.j0] at h, fun _ _ _ r h => by simp [laws_FnCoded.j1] at h, fun _ _ _ _ _ _ r h => by simp [laws_FnCoded.l0] at h, fun _ _ _ _ _ _ _ _ _ _ _ r h => by simp [laws_FnCoded.l1] at h, fun _ _ _ _ _ r h => by simp [laws_FnCoded.j4] at h⟩
  | k + 1 => by
    obtain ⟨ih0, ih1, ih2, ih3, ih4⟩ := laws_FnCoded.mono_l k
    refine ⟨?_, ?_, ?_, ?_, ?_⟩
    · intro y0 y1 y2 y3 y4 y5 y6
      unfold laws_FnCoded.j0
      repeat' first
      | (with_reducible exact ih0 _ _ _ _ _ _ _)
      | (with_reducible exact ih1 _ _ _)
      | (with_reducible exact ih2 _ _ _ _ _ _)
      | (with_reducible exact ih3 _ _ _ _ _ _ _ _ _ _ _)
      | (with_reducible exact ih4 _ _ _ _ _)
      | (with_reducible exact impl_CodesOf.mono _ _)
      | (with_reducible exact impl_DecodeBy.mono _ _ _)
      | (with_reducible exact impl_EncodeBy.mono _ _ _)
      | (with_reducible exact laws_sameInts.mono _ _ _)
      | (with_reducible exact laws_sameTexts.mono _ _ _)
      | (with_reducible exact spec_CodesOf.mono _ _)
      | (with_reducible exact spec_DecodeBy.mono _ _ _)
      | (with_reducible exact spec_DrawDecodeBy.mono _ _)
      | (with_reducible exact spec_DrawEncodeBy.mono _ _)
      | (with_reducible exact spec_EncodeBy.mono _ _ _)
      | (with_reducible exact LeO.refl _)
      | (with_reducible exact LeO.none _)
      | (with_reducible refine LeO.ite ?_ ?_)
      | (with_reducible refine LeO.bind ?_ (fun _ => ?_))
      | exact ih0 _ _ _ _ _ _ _
      | exact ih1 _ _ _
      | exact ih2 _ _ _ _ _ _
      | exact ih3 _ _ _ _ _ _ _ _ _ _ _
      | exact ih4 _ _ _ _ _
      | exact impl_CodesOf.mono _ _
      | exact impl_DecodeBy.mono _ _ _
      | exact impl_EncodeBy.mono _ _ _
      | exact laws_sameInts.mono _ _ _
      | exact laws_sameTexts.mono _ _ _
      | exact spec_CodesOf.mono _ _
      | exact spec_DecodeBy.mono _ _ _
      | exact spec_DrawDecodeBy.mono _ _
      | exact spec_DrawEncodeBy.mono _ _
      | exact spec_EncodeBy.mono _ _ _
      | exact LeO.none _
      | refine LeO.ite ?_ ?_
      | refine LeO.bind ?_ (fun _ => ?_)
    · intro y0 y1 y2
      unfold laws_FnCoded.j1
      repeat' first
      | (with_reducible exact ih0 _ _ _ _ _ _ _)
      | (with_reducible exact ih1 _ _ _)
      | (with_reducible exact ih2 _ _ _ _ _ _)
      | (with_reducible exact ih3 _ _ _ _ _ _ _ _ _ _ _)
      | (with_reducible exact ih4 _ _ _ _ _)
      | (with_reducible exact impl_CodesOf.mono _ _)
      | (with_reducible exact impl_DecodeBy.mono _ _ _)
      | (with_reducible exact impl_EncodeBy.mono _ _ _)
      | (with_reducible exact laws_sameInts.mono _ _ _)
      | (with_reducible exact laws_sameTexts.mono _ _ _)
      | (with_reducible exact spec_CodesOf.mono _ _)
      | (with_reducible exact spec_DecodeBy.mono _ _ _)
      | (with_reducible exact spec_DrawDecodeBy.mono _ _)
      | (with_reducible exact spec_DrawEncodeBy.mono _ _)
      | (with_reducible exact spec_EncodeBy.mono _ _ _)
      | (with_reducible exact LeO.refl _)
      | (with_reducible exact LeO.none _)
      | (with_reducible refine LeO.ite ?_ ?_)
      | (with_reducible refine LeO.bind ?_ (fun _ => ?_))
      | exact ih0 _ _ _ _ _ _ _
      | exact ih1 _ _ _
      | exact ih2 _ _ _ _ _ _
      | exact ih3 _ _ _ _ _ _ _ _ _ _ _
      | exact ih4 _ _ _ _ _
      | exact impl_CodesOf.mono _ _
      | exact impl_DecodeBy.mono _ _ _
      | exact impl_EncodeBy.mono _ _ _
      | exact laws_sameInts.mono _ _ _
      | exact laws_sameTexts.mono _ _ _
      | exact spec_CodesOf.mono _ _
      | exact spec_DecodeBy.mono _ _ _
      | exact spec_DrawDecodeBy.mono _ _
      | exact spec_DrawEncodeBy.mono _ _
      | exact spec_EncodeBy.mono _ _ _
      | exact LeO.none _
      | refine LeO.ite ?_ ?_
      | refine LeO.bind ?_ (fun _ => ?_)
    · intro y0 y1 y2 y3 y4 y5
      unfold laws_FnCoded.l0
      repeat' first
      | (with_reducible exact ih0 _ _ _ _ _ _ _)
      | (with_reducible exact ih1 _ _ _)
      | (with_reducible exact ih2 _ _ _ _ _ _)
      | (with_reducible exact ih3 _ _ _ _ _ _ _ _ _ _ _)
      | (with_reducible exact ih4 _ _ _ _ _)
      | (with_reducible exact impl_CodesOf.mono _ _)
      | (with_reducible exact impl_DecodeBy.mono _ _ _)
      | (with_reducible exact impl_EncodeBy.mono _ _ _)
      | (with_reducible exact laws_sameInts.mono _ _ _)
      | (with_reducible exact laws_sameTexts.mono _ _ _)
      | (with_reducible exact spec_CodesOf.mono _ _)
      | (with_reducible exact spec_DecodeBy.mono _ _ _)
      | (with_reducible exact spec_DrawDecodeBy.mono _ _)
      | (with_reducible exact spec_DrawEncodeBy.mono _ _)
      | (with_reducible exact spec_EncodeBy.mono _ _ _)
      | (with_reducible exact LeO.refl _)
      | (with_reducible exact LeO.none _)
      | (with_reducible refine LeO.ite ?_ ?_)
      | (with_reducible refine LeO.bind ?_ (fun _ => ?_))
      | exact ih0 _ _ _ _ _ _ _
      | exact ih1 _ _ _
      | exact ih2 _ _ _ _ _ _
      | exact ih3 _ _ _ _ _ _ _ _ _ _ _
      | exact ih4 _ _ _ _ _
      | exact impl_CodesOf.mono _ _
      | exact impl_DecodeBy.mono _ _ _
      | exact impl_EncodeBy.mono _ _ _
      | exact laws_sameInts.mono _ _ _
      | exact laws_sameTexts.mono _ _ _
      | exact spec_CodesOf.mono _ _
      | exact spec_DecodeBy.mono _ _ _
      | exact spec_DrawDecodeBy.mono _ _
      | exact spec_DrawEncodeBy.mono _ _
      | exact spec_EncodeBy.mono _ _ _
      | exact LeO.none _
      | refine LeO.ite ?_ ?_
      | refine LeO.bind ?_ (fun _ => ?_)
    · intro y0 y1 y2 y3 y4 y5 y6 y7 y8 y9 y10
      unfold laws_FnCoded.l1
      repeat' first
      | (with_reducible exact ih0 _ _ _ _ _ _ _)
      | (with_reducible exact ih1 _ _ _)
      | (with_reducible exact ih2 _ _ _ _ _ _)
      | (with_reducible exact ih3 _ _ _ _ _ _ _ _ _ _ _)
      | (with_reducible exact ih4 _ _ _ _ _)
      | (with_reducible exact impl_CodesOf.mono _ _)
      | (with_reducible exact impl_DecodeBy.mono _ _ _)
      | (with_reducible exact impl_EncodeBy.mono _ _ _)
      | (with_reducible exact laws_sameInts.mono _ _ _)
      | (with_reducible exact laws_sameTexts.mono _ _ _)
      | (with_reducible exact spec_CodesOf.mono _ _)
      | (with_reducible exact spec_DecodeBy.mono _ _ _)
      | (with_reducible exact spec_DrawDecodeBy.mono _ _)
      | (with_reducible exact spec_DrawEncodeBy.mono _ _)
      | (with_reducible exact spec_EncodeBy.mono _ _ _)
      | (with_reducible exact LeO.refl _)
      | (with_reducible exact LeO.none _)
      | (with_reducible refine LeO.ite ?_ ?_)
      | (with_reducible refine LeO.bind ?_ (fun _ => ?_))
      | exact ih0 _ _ _ _ _ _ _
      | exact ih1 _ _ _
      | exact ih2 _ _ _ _ _ _
      | exact ih3 _ _ _ _ _ _ _ _ _ _ _
      | exact ih4 _ _ _ _ _
      | exact impl_CodesOf.mono _ _
      | exact impl_DecodeBy.mono _ _ _
      | exact impl_EncodeBy.mono _ _ _
      | exact laws_sameInts.mono _ _ _
      | exact laws_sameTexts.mono _ _ _
      | exact spec_CodesOf.mono _ _
      | exact spec_DecodeBy.mono _ _ _
      | exact spec_DrawDecodeBy.mono _ _
      | exact spec_DrawEncodeBy.mono _ _
      | exact spec_EncodeBy.mono _ _ _
      | exact LeO.none _
      | refine LeO.ite ?_ ?_
      | refine LeO.bind ?_ (fun _ => ?_)
    · intro y0 y1 y2 y3 y4
      unfold laws_FnCoded.j4
      repeat' first
      | (with_reducible exact ih0 _ _ _ _ _ _ _)
      | (with_reducible exact ih1 _ _ _)
      | (with_reducible exact ih2 _ _ _ _ _ _)
      | (with_reducible exact ih3 _ _ _ _ _ _ _ _ _ _ _)
      | (with_reducible exact ih4 _ _ _ _ _)
      | (with_reducible exact impl_CodesOf.mono _ _)
      | (with_reducible exact impl_DecodeBy.mono _ _ _)
      | (with_reducible exact impl_EncodeBy.mono _ _ _)
      | (with_reducible exact laws_sameInts.mono _ _ _)
      | (with_reducible exact laws_sameTexts.mono _ _ _)
      | (with_reducible exact spec_CodesOf.mono _ _)
      | (with_reducible exact spec_DecodeBy.mono _ _ _)
      | (with_reducible exact spec_DrawDecodeBy.mono _ _)
      | (with_reducible exact spec_DrawEncodeBy.mono _ _)
      | (with_reducible exact spec_EncodeBy.mono _ _ _)
      | (with_reducible exact LeO.refl _)
      | (with_reducible exact LeO.none _)
      | (with_reducible refine LeO.ite ?_ ?_)
      | (with_reducible refine LeO.bind ?_ (fun _ => ?_))
      | exact ih0 _ _ _ _ _ _ _
      | exact ih1 _ _ _
      | exact ih2 _ _ _ _ _ _
      | exact ih3 _ _ _ _ _ _ _ _ _ _ _
      | exact ih4 _ _ _ _ _
      | exact impl_CodesOf.mono _ _
      | exact impl_DecodeBy.mono _ _ _
      | exact impl_EncodeBy.mono _ _ _
      | exact laws_sameInts.mono _ _ _
      | exact laws_sameTexts.mono _ _ _
      | exact spec_CodesOf.mono _ _
      | exact spec_DecodeBy.mono _ _ _
      | exact spec_DrawDecodeBy.mono _ _
      | exact spec_DrawEncodeBy.mono _ _
      | exact spec_EncodeBy.mono _ _ _
      | exact LeO.none _
      | refine LeO.ite ?_ ?_
      | refine LeO.bind ?_ (fun _ => ?_)
theorem laws_FnCoded.mono : ∀ a0 a1 k, LeO (laws_FnCoded.f k a0 a1) (laws_FnCoded.f (k + 1) a0 a1) := by
  intro a0 a1 k
  obtain ⟨ih0, ih1, ih2, ih3, ih4⟩ := laws_FnCoded.mono_l k
  unfold laws_FnCoded.f
  repeat' first
      | (with_reducible exact ih0 _ _ _ _ _ _ _)
      | (with_reducible exact ih1 _ _ _)
      | (with_reducible exact ih2 _ _ _ _ _ _)
      | (with_reducible exact ih3 _ _ _ _ _ _ _ _ _ _ _)
      | (with_reducible exact ih4 _ _ _ _ _)
      | (with_reducible exact impl_CodesOf.mono _ _)
      | (with_reducible exact impl_DecodeBy.mono _ _ _)
      | (with_reducible exact impl_EncodeBy.mono _ _ _)
      | (with_reducible exact laws_sameInts.mono _ _ _)
      | (with_reducible exact laws_sameTexts.mono _ _ _)
      | (with_reducible exact spec_CodesOf.mono _ _)
      | (with_reducible exact spec_DecodeBy.mono _ _ _)
      | (with_reducible exact spec_DrawDecodeBy.mono _ _)
      | (with_reducible exact spec_DrawEncodeBy.mono _ _)
      | (with_reducible exact spec_EncodeBy.mono _ _ _)
      | (with_reducible exact LeO.refl _)
      | (with_reducible exact LeO.none _)
      | (with_reducible refine LeO.ite ?_ ?_)
      | (with_reducible refine LeO.bind ?_ (fun _ => ?_))
      | exact ih0 _ _ _ _ _ _ _
      | exact ih1 _ _ _
      | exact ih2 _ _ _ _ _ _
      | exact ih3 _ _ _ _ _ _ _ _ _ _ _
      | exact ih4 _ _ _ _ _
      | exact impl_CodesOf.mono _ _
      | exact impl_DecodeBy.mono _ _ _
      | exact impl_EncodeBy.mono _ _ _
      | exact laws_sameInts.mono _ _ _
      | exact laws_sameTexts.mono _ _ _
      | exact spec_CodesOf.mono _ _
      | exact spec_DecodeBy.mono _ _ _
      | exact spec_DrawDecodeBy.mono _ _
      | exact spec_DrawEncodeBy.mono _ _
      | exact spec_EncodeBy.mono _ _ _
      | exact LeO.none _
      | refine LeO.ite ?_ ?_
      | refine LeO.bind ?_ (fun _ => ?_)
set_option maxHeartbeats 8000000 in
set_option maxRecDepth 100000 in
theorem laws_FnCoded.calls (k : Nat) (A0 : Option Addr) (c0 : Nat) (l0 : List Int) (A1 : Option Addr) (c1 : Nat) (l1 : List Int) (r : Bool) (w : World) (hr0 : Kd.C (Kd.int .u8) w A0 l0.length l0) (hc0 : l0.length ≤ c0) (hr1 : Kd.C (Kd.int .u8) w A1 l1.length l1) (hc1 : l1.length ≤ c1) (h : laws_FnCoded.f k l0 l1 = some r) :
    Calls Tryd.prog 3 #[.slice A0 l0.length c0, .slice A1 l1.length c1] w fun e w' => e = .returned (.bool r) ∧ Below w.heap.size w w' := by
  have HR0 := Aside0.mk hr0
  have HC0 := Aside0.mk hc0
  clear hr0 hc0
  have HR1 := Aside0.mk hr1
  have HC1 := Aside0.mk hc1
  clear hr1 hc1
  have HB := Aside0.mk (Below.refl w.heap.size w)
  have H : ((laws_big.f l0 l1).bind fun t359 => (if t359 = true then (some true) else ((spec_DrawEncodeBy.f k l0).bind fun bt360 => ((impl_EncodeBy.f k bt360.1 bt360.2).bind fun bt366 => ((spec_EncodeBy.f k bt360.1 bt360.2).bind fun bt368 => ((impl_CodesOf.f k bt360.1).bind fun bt370 => ((spec_CodesOf.f k bt360.1).bind fun bt374 => (if (bt366.2 != bt368.2) = true then (laws_FnCoded.j0 k l1 bt360.1 bt360.2 bt366.1 bt366.2 bt370.1 true) else (if bt366.1.toList = bt368.1.toList then (if (bt370.2 != bt374.2) = true then (laws_FnCoded.j0 k l1 bt360.1 bt360.2 bt366.1 bt366.2 bt370.1 true) else ((laws_sameTexts.f k bt370.1 bt374.1).bind fun t378 => (laws_FnCoded.j0 k l1 bt360.1 bt360.2 bt366.1 bt366.2 bt370.1 (!t378)))) else (laws_FnCoded.j0 k l1 bt360.1 bt360.2 bt366.1 bt366.2 bt370.1 true)))))))))) = some r := h
  clear h
  replace H := Option.bind_eq_some_iff.mp H
  obtain ⟨t359, A30, H⟩ := H
  replace H : (if t359 = true then (some true) else ((spec_DrawEncodeBy.f k l0).bind fun bt360 => ((impl_EncodeBy.f k bt360.1 bt360.2).bind fun bt366 => ((spec_EncodeBy.f k bt360.1 bt360.2).bind fun bt368 => ((impl_CodesOf.f k bt360.1).bind fun bt370 => ((spec_CodesOf.f k bt360.1).bind fun bt374 => (if (bt366.2 != bt368.2) = true then (laws_FnCoded.j0 k l1 bt360.1 bt360.2 bt366.1 bt366.2 bt370.1 true) else (if bt366.1.toList = bt368.1.toList then (if (bt370.2 != bt374.2) = true then (laws_FnCoded.j0 k l1 bt360.1 bt360.2 bt366.1 bt366.2 bt370.1 true) else ((laws_sameTexts.f k bt370.1 bt374.1).bind fun t378 => (laws_FnCoded.j0 k l1 bt360.1 bt360.2 bt366.1 bt366.2 bt370.1 (!t378)))) else (laws_FnCoded.j0 k l1 bt360.1 bt360.2 bt366.1 bt366.2 bt370.1 true))))))))) = some r := H
  have A3 := Aside0.mk A30
  clear A30
  by_cases c4 : t359 = true
  · subst c4
    have H1 : (some true) = some r := by rw [if_pos rfl] at H; exact H
    clear H
    have H := H1
    clear H1
    obtain rfl := Option.some.inj H
    go_enter Tryd.func3, Tryd.ntmps3
    go_wp2_with (first | ((with_reducible refine gate_callee (f := 4) rfl ?_); refine goesL_ (some 31) rfl rfl Tryd.func4 (by kernel_rfl) rfl #[.slice A0 l0.length c0, .slice A1 l1.length c1] rfl (by (try simp only [List.map_toArray, List.map_cons, List.map_nil]); first | done | rfl | (simp only [List.length_drop, List.length_take]; rfl)) ?_; (with_reducible refine (laws_big.calls _ _ l0 _ _ l1 true _ ?side1 ?side2 ?side3 ?side4 A3.out).mono ?_); (case side1 => repeat (first | exact HR0.out | (with_reducible refine Kd.C_alloc ?_ _) | (with_reducible refine Kd.C_drewN ?_ _) | (with_reducible refine Kd.C_drew ?_))); (case side2 => exact HC0.out); (case side3 => repeat (first | exact HR1.out | (with_reducible refine Kd.C_alloc ?_ _) | (with_reducible refine Kd.C_drewN ?_ _) | (with_reducible refine Kd.C_drew ?_))); (case side4 => exact HC1.out); rintro e w' ⟨rfl, ⟨nd, rfl⟩⟩; refine ⟨_, rfl, ?_⟩))
    go_ret
    exact ⟨by first | rfl | (simp [errW_none, errW_some] <;> rfl) | (simp [*, errW_none, errW_some] <;> rfl), by repeat (first | (with_reducible first | exact HB.out | apply below_alloc | apply pw_below_drewN | apply below_drew1) | exact HB.out)⟩
  · replace c4 := Bool.eq_false_iff.mpr c4
    subst c4
    have H1 : ((spec_DrawEncodeBy.f k l0).bind fun bt360 => ((impl_EncodeBy.f k bt360.1 bt360.2).bind fun bt366 => ((spec_EncodeBy.f k bt360.1 bt360.2).bind fun bt368 => ((impl_CodesOf.f k bt360.1).bind fun bt370 => ((spec_CodesOf.f k bt360.1).bind fun bt374 => (if (bt366.2 != bt368.2) = true then (laws_FnCoded.j0 k l1 bt360.1 bt360.2 bt366.1 bt366.2 bt370.1 true) else (if bt366.1.toList = bt368.1.toList then (if (bt370.2 != bt374.2) = true then (laws_FnCoded.j0 k l1 bt360.1 bt360.2 bt366.1 bt366.2 bt370.1 true) else ((laws_sameTexts.f k bt370.1 bt374.1).bind fun t378 => (laws_FnCoded.j0 k l1 bt360.1 bt360.2 bt366.1 bt366.2 bt370.1 (!t378)))) else (laws_FnCoded.j0 k l1 bt360.1 bt360.2 bt366.1 bt366.2 bt370.1 true)))))))) = some r := by rw [if_neg (show ¬ (false = true) by decide)] at H; exact H
    clear H
    have H := H1
    clear H1
    replace H := Option.bind_eq_some_iff.mp H
    obtain ⟨⟨t360, t361⟩, A50, H⟩ := H
    replace H : ((impl_EncodeBy.f k t360 t361).bind fun bt366 => ((spec_EncodeBy.f k t360 t361).bind fun bt368 => ((impl_CodesOf.f k t360).bind fun bt370 => ((spec_CodesOf.f k t360).bind fun bt374 => (if (bt366.2 != bt368.2) = true then (laws_FnCoded.j0 k l1 t360 t361 bt366.1 bt366.2 bt370.1 true) else (if bt366.1.toList = bt368.1.toList then (if (bt370.2 != bt374.2) = true then (laws_FnCoded.j0 k l1 t360 t361 bt366.1 bt366.2 bt370.1 true) else ((laws_sameTexts.f k bt370.1 bt374.1).bind fun t378 => (laws_FnCoded.j0 k l1 t360 t361 bt366.1 bt366.2 bt370.1 (!t378)))) else (laws_FnCoded.j0 k l1 t360 t361 bt366.1 bt366.2 bt370.1 true))))))) = some r := H
    have A5 := Aside0.mk A50
    clear A50
    replace H := Option.bind_eq_some_iff.mp H
    obtain ⟨⟨t366, t367⟩, A60, H⟩ := H
    replace H : ((spec_EncodeBy.f k t360 t361).bind fun bt368 => ((impl_CodesOf.f k t360).bind fun bt370 => ((spec_CodesOf.f k t360).bind fun bt374 => (if (t367 != bt368.2) = true then (laws_FnCoded.j0 k l1 t360 t361 t366 t367 bt370.1 true) else (if t366.toList = bt368.1.toList then (if (bt370.2 != bt374.2) = true then (laws_FnCoded.j0 k l1 t360 t361 t366 t367 bt370.1 true) else ((laws_sameTexts.f k bt370.1 bt374.1).bind fun t378 => (laws_FnCoded.j0 k l1 t360 t361 t366 t367 bt370.1 (!t378)))) else (laws_FnCoded.j0 k l1 t360 t361 t366 t367 bt370.1 true)))))) = some r := H
    have A6 := Aside0.mk A60
    clear A60
    replace H := Option.bind_eq_some_iff.mp H
    obtain ⟨⟨t368, t369⟩, A70, H⟩ := H
    replace H : ((impl_CodesOf.f k t360).bind fun bt370 => ((spec_CodesOf.f k t360).bind fun bt374 => (if (t367 != t369) = true then (laws_FnCoded.j0 k l1 t360 t361 t366 t367 bt370.1 true) else (if t366.toList = t368.toList then (if (bt370.2 != bt374.2) = true then (laws_FnCoded.j0 k l1 t360 t361 t366 t367 bt370.1 true) else ((laws_sameTexts.f k bt370.1 bt374.1).bind fun t378 => (laws_FnCoded.j0 k l1 t360 t361 t366 t367 bt370.1 (!t378)))) else (laws_FnCoded.j0 k l1 t360 t361 t366 t367 bt370.1 true))))) = some r := H
    have A7 := Aside0.mk A70
    clear A70
    replace H := Option.bind_eq_some_iff.mp H
    obtain ⟨⟨t370, t371⟩, A80, H⟩ := H
    replace H : ((spec_CodesOf.f k t360).bind fun bt374 => (if (t367 != t369) = true then (laws_FnCoded.j0 k l1 t360 t361 t366 t367 t370 true) else (if t366.toList = t368.toList then (if (t371 != bt374.2) = true then (laws_FnCoded.j0 k l1 t360 t361 t366 t367 t370 true) else ((laws_sameTexts.f k t370 bt374.1).bind fun t378 => (laws_FnCoded.j0 k l1 t360 t361 t366 t367 t370 (!t378)))) else (laws_FnCoded.j0 k l1 t360 t361 t366 t367 t370 true)))) = some r := H
    have A8 := Aside0.mk A80
    clear A80
    replace H := Option.bind_eq_some_iff.mp H
    obtain ⟨⟨t374, t375⟩, A90, H⟩ := H
    replace H : (if (t367 != t369) = true then (laws_FnCoded.j0 k l1 t360 t361 t366 t367 t370 true) else (if t366.toList = t368.toList then (if (t371 != t375) = true then (laws_FnCoded.j0 k l1 t360 t361 t366 t367 t370 true) else ((laws_sameTexts.f k t370 t374).bind fun t378 => (laws_FnCoded.j0 k l1 t360 t361 t366 t367 t370 (!t378)))) else (laws_FnCoded.j0 k l1 t360 t361 t366 t367 t370 true))) = some r := H
    have A9 := Aside0.mk A90
    clear A90
    have HC10 := Aside0.mk H
    clear H
    go_enter Tryd.func3, Tryd.ntmps3
    go_upto_region 8 with (first | ((with_reducible refine gate_callee (f := 4) rfl ?_); refine goesL_ (some 31) rfl rfl Tryd.func4 (by kernel_rfl) rfl #[.slice A0 l0.length c0, .slice A1 l1.length c1] rfl (by (try simp only [List.map_toArray, List.map_cons, List.map_nil]); first | done | rfl | (simp only [List.length_drop, List.length_take]; rfl)) ?_; (with_reducible refine (laws_big.calls _ _ l0 _ _ l1 false _ ?side1 ?side2 ?side3 ?side4 A3.out).mono ?_); (case side1 => repeat (first | exact HR0.out | (with_reducible refine Kd.C_alloc ?_ _) | (with_reducible refine Kd.C_drewN ?_ _) | (with_reducible refine Kd.C_drew ?_))); (case side2 => exact HC0.out); (case side3 => repeat (first | exact HR1.out | (with_reducible refine Kd.C_alloc ?_ _) | (with_reducible refine Kd.C_drewN ?_ _) | (with_reducible refine Kd.C_drew ?_))); (case side4 => exact HC1.out); rintro e w' ⟨rfl, ⟨nd, rfl⟩⟩; refine ⟨_, rfl, ?_⟩) | ((with_reducible refine gate_callee (f := 5) rfl ?_); refine goesL_ (some 34) rfl rfl Tryd.func5 (by kernel_rfl) rfl #[.slice A0 l0.length c0] rfl (by (try simp only [List.map_toArray, List.map_cons, List.map_nil]); first | done | rfl | (simp only [List.length_drop, List.length_take]; rfl)) ?_; (with_reducible refine (spec_DrawEncodeBy.calls k _ _ l0 t360 t361 _ ?side1 ?side2 A5.out).mono ?_); (case side1 => repeat (first | exact HR0.out | (with_reducible refine Kd.C_alloc ?_ _) | (with_reducible refine Kd.C_drewN ?_ _) | (with_reducible refine Kd.C_drew ?_))); (case side2 => exact HC0.out); rintro e w11 ⟨v362, v364, rfl, ho0, ho1, hb⟩; refine ⟨_, rfl, ?_⟩; have n0_ := Aside0.mk (Kd.R_lower ho0 (below_size (by repeat (first | (with_reducible first | exact HB.out | apply below_alloc | apply pw_below_drewN | apply below_drew1) | exact HB.out)))); have n1_ := Aside0.mk (Kd.R_lower ho1 (below_size (by repeat (first | (with_reducible first | exact HB.out | apply below_alloc | apply pw_below_drewN | apply below_drew1) | exact HB.out)))); have n2_ := Aside0.mk (below_step (by repeat (first | (with_reducible first | exact HB.out | apply below_alloc | apply pw_below_drewN | apply below_drew1) | exact HB.out)) hb); clear HB; have HO363 := n0_; have HO365 := n1_; have HB := n2_; clear n0_ n1_ n2_; (try clear hb); (try clear hb2); (try clear hk); (try clear hi); (try clear ho0); (try clear ho1); obtain ⟨Ao12, co12, eo12⟩ := Kd.R_slice HO363.out; subst eo12; obtain ⟨Ao13, co13, eo13⟩ := Kd.R_slice HO365.out; subst eo13) | ((with_reducible refine gate_callee (f := 6) rfl ?_); refine goesL_ (some 40) rfl rfl Tryd.func6 (by kernel_rfl) rfl #[.slice Ao12 t360.length co12, .slice Ao13 t361.length co13] rfl (by (try simp only [List.map_toArray, List.map_cons, List.map_nil]); first | done | rfl | (simp only [List.length_drop, List.length_take]; rfl)) ?_; (with_reducible refine (impl_EncodeBy.calls k _ _ t360 _ _ t361 t366 t367 _ ?side1 ?side2 ?side3 ?side4 A6.out).mono ?_); (case side1 => repeat (first | exact (Kd.R_reads' HO363.out).2.2 | (with_reducible refine Kd.C_alloc ?_ _) | (with_reducible refine Kd.C_drewN ?_ _) | (with_reducible refine Kd.C_drew ?_))); (case side2 => exact (Kd.R_reads' HO363.out).2.1); (case side3 => repeat (first | exact (Kd.R_reads' HO365.out).2.2 | (with_reducible refine Kd.C_alloc ?_ _) | (with_reducible refine Kd.C_drewN ?_ _) | (with_reducible refine Kd.C_drew ?_))); (case side4 => exact (Kd.R_reads' HO365.out).2.1); rintro e w14 ⟨rfl, hb⟩; refine ⟨_, rfl, ?_⟩; have n0_ := Aside0.mk (Kd.R_below (by (with_reducible repeat (first | apply Kd.R_alloc | apply Kd.R_drewN | apply Kd.R_drew)); exact HO363.out) hb); have n1_ := Aside0.mk (Kd.R_below (by (with_reducible repeat (first | apply Kd.R_alloc | apply Kd.R_drewN | apply Kd.R_drew)); exact HO365.out) hb); have n2_ := Aside0.mk (below_step (by repeat (first | (with_reducible first | exact HB.out | apply below_alloc | apply pw_below_drewN | apply below_drew1) | exact HB.out)) hb); clear HO363; clear HO365; clear HB; have HO363 := n0_; have HO365 := n1_; have HB := n2_; clear n0_ n1_ n2_; (try clear hb); (try clear hb2); (try clear hk); (try clear hi)) | ((with_reducible refine gate_callee (f := 7) rfl ?_); refine goesL_ (some 46) rfl rfl Tryd.func7 (by kernel_rfl) rfl #[.slice Ao12 t360.length co12, .slice Ao13 t361.length co13] rfl (by (try simp only [List.map_toArray, List.map_cons, List.map_nil]); first | done | rfl | (simp only [List.length_drop, List.length_take]; rfl)) ?_; (with_reducible refine (spec_EncodeBy.calls k _ _ t360 _ _ t361 t368 t369 _ ?side1 ?side2 ?side3 ?side4 A7.out).mono ?_); (case side1 => repeat (first | exact (Kd.R_reads' HO363.out).2.2 | (with_reducible refine Kd.C_alloc ?_ _) | (with_reducible refine Kd.C_drewN ?_ _) | (with_reducible refine Kd.C_drew ?_))); (case side2 => exact (Kd.R_reads' HO363.out).2.1); (case side3 => repeat (first | exact (Kd.R_reads' HO365.out).2.2 | (with_reducible refine Kd.C_alloc ?_ _) | (with_reducible refine Kd.C_drewN ?_ _) | (with_reducible refine Kd.C_drew ?_))); (case side4 => exact (Kd.R_reads' HO365.out).2.1); rintro e w15 ⟨rfl, hb⟩; refine ⟨_, rfl, ?_⟩; have n0_ := Aside0.mk (Kd.R_below (by (with_reducible repeat (first | apply Kd.R_alloc | apply Kd.R_drewN | apply Kd.R_drew)); exact HO363.out) hb); have n1_ := Aside0.mk (Kd.R_below (by (with_reducible repeat (first | apply Kd.R_alloc | apply Kd.R_drewN | apply Kd.R_drew)); exact HO365.out) hb); have n2_ := Aside0.mk (below_step (by repeat (first | (with_reducible first | exact HB.out | apply below_alloc | apply pw_below_drewN | apply below_drew1) | exact HB.out)) hb); clear HO363; clear HO365; clear HB; have HO363 := n0_; have HO365 := n1_; have HB := n2_; clear n0_ n1_ n2_; (try clear hb); (try clear hb2); (try clear hk); (try clear hi)) | ((with_reducible refine gate_callee (f := 8) rfl ?_); refine goesL_ (some 51) rfl rfl Tryd.func8 (by kernel_rfl) rfl #[.slice Ao12 t360.length co12] rfl (by (try simp only [List.map_toArray, List.map_cons, List.map_nil]); first | done | rfl | (simp only [List.length_drop, List.length_take]; rfl)) ?_; (with_reducible refine (impl_CodesOf.calls k _ _ t360 t370 t371 _ ?side1 ?side2 A8.out).mono ?_); (case side1 => repeat (first | exact (Kd.R_reads' HO363.out).2.2 | (with_reducible refine Kd.C_alloc ?_ _) | (with_reducible refine Kd.C_drewN ?_ _) | (with_reducible refine Kd.C_drew ?_))); (case side2 => exact (Kd.R_reads' HO363.out).2.1); rintro e w16 ⟨v372, rfl, ho0, hb⟩; refine ⟨_, rfl, ?_⟩; have n0_ := Aside0.mk (Kd.R_below (by (with_reducible repeat (first | apply Kd.R_alloc | apply Kd.R_drewN | apply Kd.R_drew)); exact HO363.out) hb); have n1_ := Aside0.mk (Kd.R_below (by (with_reducible repeat (first | apply Kd.R_alloc | apply Kd.R_drewN | apply Kd.R_drew)); exact HO365.out) hb); have n2_ := Aside0.mk (Kd.R_lower ho0 (below_size (by repeat (first | (with_reducible first | exact HB.out | apply below_alloc | apply pw_below_drewN | apply below_drew1) | exact HB.out)))); have n3_ := Aside0.mk (below_step (by repeat (first | (with_reducible first | exact HB.out | apply below_alloc | apply pw_below_drewN | apply below_drew1) | exact HB.out)) hb); clear HO363; clear HO365; clear HB; have HO363 := n0_; have HO365 := n1_; have HO373 := n2_; have HB := n3_; clear n0_ n1_ n2_ n3_; (try clear hb); (try clear hb2); (try clear hk); (try clear hi); (try clear ho0)) | ((with_reducible refine gate_callee (f := 9) rfl ?_); refine goesL_ (some 56) rfl rfl Tryd.func9 (by kernel_rfl) rfl #[.slice Ao12 t360.length co12] rfl (by (try simp only [List.map_toArray, List.map_cons, List.map_nil]); first | done | rfl | (simp only [List.length_drop, List.length_take]; rfl)) ?_; (with_reducible refine (spec_CodesOf.calls k _ _ t360 t374 t375 _ ?side1 ?side2 A9.out).mono ?_); (case side1 => repeat (first | exact (Kd.R_reads' HO363.out).2.2 | (with_reducible refine Kd.C_alloc ?_ _) | (with_reducible refine Kd.C_drewN ?_ _) | (with_reducible refine Kd.C_drew ?_))); (case side2 => exact (Kd.R_reads' HO363.out).2.1); rintro e w17 ⟨v376, rfl, ho0, hb⟩; refine ⟨_, rfl, ?_⟩; have n0_ := Aside0.mk (Kd.R_below (by (with_reducible repeat (first | apply Kd.R_alloc | apply Kd.R_drewN | apply Kd.R_drew)); exact HO363.out) hb); have n1_ := Aside0.mk (Kd.R_below (by (with_reducible repeat (first | apply Kd.R_alloc | apply Kd.R_drewN | apply Kd.R_drew)); exact HO365.out) hb); have n2_ := Aside0.mk (Kd.R_elder' (by (with_reducible repeat (first | apply Kd.R_alloc | apply Kd.R_drewN | apply Kd.R_drew)); exact HO373.out) (Kd.R_base ho0) hb); have n3_ := Aside0.mk (Kd.R_lower (Kd.R_new' ho0 (Kd.R_lt (by (with_reducible repeat (first | apply Kd.R_alloc | apply Kd.R_drewN | apply Kd.R_drew)); exact HO373.out))) (below_size (by repeat (first | (with_reducible first | exact HB.out | apply below_alloc | apply pw_below_drewN | apply below_drew1) | exact HB.out)))); have n4_ := Aside0.mk (below_step (by repeat (first | (with_reducible first | exact HB.out | apply below_alloc | apply pw_below_drewN | apply below_drew1) | exact HB.out)) hb); clear HO363; clear HO365; clear HO373; clear HB; have HO363 := n0_; have HO365 := n1_; have HO373 := n2_; have HO377 := n3_; have HB := n4_; clear n0_ n1_ n2_ n3_ n4_; (try clear hb); (try clear hb2); (try clear hk); (try clear hi); (try clear ho0)))
    (try simp only [Act.put, List.setIfInBounds_toArray, List.set_cons_zero, List.set_cons_succ])
    go_cut [77] (fun v77 wc => ∃ (kq : Nat) (x77_9 : Bool), v77 = .bool x77_9 ∧ Aside0 (laws_FnCoded.j0 kq l1 t360 t361 t366 t367 t370 x77_9 = some r) ∧ Aside0 (kq ≤ k) ∧ Aside0 (Kd.R (Kd.int .i64) 3 wc w.heap.size (fun k_ => some k_ ≠ ((.slice Ao13 t361.length co13) : Value).ownBlock) (.slice Ao12 t360.length co12) t360) ∧ Aside0 (Kd.R (Kd.int .i64) 3 wc w.heap.size (fun k_ => some k_ ≠ ((.slice Ao12 t360.length co12) : Value).ownBlock) (.slice Ao13 t361.length co13) t361) ∧ Aside0 (Kd.R Kd.string 9 wc w.heap.size (fun _ => True) v372 t370) ∧ Aside0 (Below w.heap.size w wc))
    case first =>
      have H := HC10.out
      clear HC10
      by_cases c18 : (t367 != t369) = true
      · rw [if_pos c18] at H
        have c18b0 : (t367 != t369) = true := c18
        (try (have c18b1 : decide (t367 = t369) = false := by simpa using c18))
        (try (have c18b2 : (t367 == t369) = false := by simpa using c18))
        (try (have c18b3 : ¬ (t367 = t369) := by simpa using c18))
        clear c18
        (first | rw [c18b0] | (simp only [i64_w, i32_w]; rw [c18b0]) | skip)
        have H' := Aside0.mk H
        clear H
        go_wp2
        go_meet
        case rel => exact ⟨_, (true), (by first | rfl | (simp; done) | (simp [*]; done)), H', ⟨by first | omega | exact Nat.le_refl _⟩, ⟨by (with_reducible repeat (first | apply Kd.R_alloc | apply Kd.R_drewN | apply Kd.R_drew)); exact HO363.out⟩, ⟨by (with_reducible repeat (first | apply Kd.R_alloc | apply Kd.R_drewN | apply Kd.R_drew)); exact HO365.out⟩, ⟨by (with_reducible repeat (first | apply Kd.R_alloc | apply Kd.R_drewN | apply Kd.R_drew)); exact Kd.R_mono HO373.out (fun _ hk => trivial)⟩, ⟨by repeat (first | (with_reducible first | exact HB.out | apply below_alloc | apply pw_below_drewN | apply below_drew1) | exact HB.out)⟩⟩
      · rw [if_neg c18] at H
        have c18b0 : (t367 != t369) = false := by simpa using c18
        (try (have c18b1 : decide (t367 = t369) = true := by simpa using c18))
        (try (have c18b2 : (t367 == t369) = true := by simpa using c18))
        clear c18
        (first | rw [c18b0] | (simp only [i64_w, i32_w]; rw [c18b0]) | skip)
        by_cases c19 : t366.toList = t368.toList
        · rw [if_pos c19] at H
          have c19b0 : (t366.toList == t368.toList) = true := beq_iff_eq.mpr c19
          have c19b1 : (t366.toList != t368.toList) = false := bne_eq_false_iff_eq.mpr c19
          clear c19
          by_cases c20 : (t371 != t375) = true
          · rw [if_pos c20] at H
            have c20b0 : (t371 != t375) = true := c20
            (try (have c20b1 : decide (t371 = t375) = false := by simpa using c20))
            (try (have c20b2 : (t371 == t375) = false := by simpa using c20))
            (try (have c20b3 : ¬ (t371 = t375) := by simpa using c20))
            clear c20
            have H' := Aside0.mk H
            clear H
            go_wp2
            go_meet
            case rel => exact ⟨_, (true), (by first | rfl | (simp; done) | (simp [*]; done)), H', ⟨by first | omega | exact Nat.le_refl _⟩, ⟨by (with_reducible repeat (first | apply Kd.R_alloc | apply Kd.R_drewN | apply Kd.R_drew)); exact HO363.out⟩, ⟨by (with_reducible repeat (first | apply Kd.R_alloc | apply Kd.R_drewN | apply Kd.R_drew)); exact HO365.out⟩, ⟨by (with_reducible repeat (first | apply Kd.R_alloc | apply Kd.R_drewN | apply Kd.R_drew)); exact Kd.R_mono HO373.out (fun _ hk => trivial)⟩, ⟨by repeat (first | (with_reducible first | exact HB.out | apply below_alloc | apply pw_below_drewN | apply below_drew1) | exact HB.out)⟩⟩
          · rw [if_neg c20] at H
            have c20b0 : (t371 != t375) = false := by simpa using c20
            (try (have c20b1 : decide (t371 = t375) = true := by simpa using c20))
            (try (have c20b2 : (t371 == t375) = true := by simpa using c20))
            clear c20
            replace H := Option.bind_eq_some_iff.mp H
            obtain ⟨t378, A210, H⟩ := H
            replace H : (laws_FnCoded.j0 k l1 t360 t361 t366 t367 t370 (!t378)) = some r := H
            have A21 := Aside0.mk A210
            clear A210
            have H' := Aside0.mk H
            clear H
            obtain ⟨Ao22, co22, eo22⟩ := Kd.R_slice HO373.out
            subst eo22
            obtain ⟨Ao23, co23, eo23⟩ := Kd.R_slice HO377.out
            subst eo23
            go_wp2_with (first | (go_at_call 10; (with_reducible refine (laws_sameTexts.calls k _ _ t370 _ _ t374 t378 _ ?side1 ?side2 ?side3 ?side4 A21.out).mono ?_); (case side1 => repeat (first | exact (Kd.R_reads' HO373.out).2.2 | (with_reducible refine Kd.C_alloc ?_ _) | (with_reducible refine Kd.C_drewN ?_ _) | (with_reducible refine Kd.C_drew ?_))); (case side2 => exact (Kd.R_reads' HO373.out).2.1); (case side3 => repeat (first | exact (Kd.R_reads' HO377.out).2.2 | (with_reducible refine Kd.C_alloc ?_ _) | (with_reducible refine Kd.C_drewN ?_ _) | (with_reducible refine Kd.C_drew ?_))); (case side4 => exact (Kd.R_reads' HO377.out).2.1); rintro e w' ⟨rfl, ⟨nd, rfl⟩⟩))
            go_meet
            case rel => exact ⟨_, (!t378), (by first | rfl | (simp; done) | (simp [*]; done)), H', ⟨by first | omega | exact Nat.le_refl _⟩, ⟨by (with_reducible repeat (first | apply Kd.R_alloc | apply Kd.R_drewN | apply Kd.R_drew)); exact HO363.out⟩, ⟨by (with_reducible repeat (first | apply Kd.R_alloc | apply Kd.R_drewN | apply Kd.R_drew)); exact HO365.out⟩, ⟨by (with_reducible repeat (first | apply Kd.R_alloc | apply Kd.R_drewN | apply Kd.R_drew)); exact Kd.R_mono HO373.out (fun _ hk => trivial)⟩, ⟨by repeat (first | (with_reducible first | exact HB.out | apply below_alloc | apply pw_below_drewN | apply below_drew1) | exact HB.out)⟩⟩
        · rw [if_neg c19] at H
          have c19b0 : (t366.toList == t368.toList) = false := beq_eq_false_iff_ne.mpr c19
          have c19b1 : (t366.toList != t368.toList) = true := bne_iff_ne.mpr c19
          have H' := Aside0.mk H
          clear H
          go_wp2
          go_meet
          case rel => exact ⟨_, (true), (by first | rfl | (simp; done) | (simp [*]; done)), H', ⟨by first | omega | exact Nat.le_refl _⟩, ⟨by (with_reducible repeat (first | apply Kd.R_alloc | apply Kd.R_drewN | apply Kd.R_drew)); exact HO363.out⟩, ⟨by (with_reducible repeat (first | apply Kd.R_alloc | apply Kd.R_drewN | apply Kd.R_drew)); exact HO365.out⟩, ⟨by (with_reducible repeat (first | apply Kd.R_alloc | apply Kd.R_drewN | apply Kd.R_drew)); exact Kd.R_mono HO373.out (fun _ hk => trivial)⟩, ⟨by repeat (first | (with_reducible first | exact HB.out | apply below_alloc | apply pw_below_drewN | apply below_drew1) | exact HB.out)⟩⟩
    case rest =>
      clear HC10
      try clear c1
      try clear c2
      try clear p2
      try clear c3
      try clear c4
      try clear c5
      try clear c6
      try clear c7
      try clear c8
      try clear c9
      try clear c18
      try clear c18b0
      try clear c18b1
      try clear c18b2
      try clear c19
      try clear c19b0
      try clear c19b1
      try clear c20
      try clear c20b0
      try clear c20b1
      try clear c20b2
      obtain ⟨kq, x77_9, rfl, HA, HJ9, HO_5, HO_6, HO_11, HB⟩ := hcut
      cases kq with
      | zero => exact absurd HA.out (by simp [laws_FnCoded.j0])
      | succ kj9 =>
        have H := HA.out
        clear HA
        simp only [laws_FnCoded.j0] at H
        by_cases c24 : x77_9 = true
        · subst c24
          have H1 : (some false) = some r := by rw [if_pos rfl] at H; exact H
          clear H
          have H := H1
          clear H1
          obtain rfl := Option.some.inj H
          go_wp2
          go_ret
          exact ⟨by first | rfl | (simp [errW_none, errW_some] <;> rfl) | (simp [*, errW_none, errW_some] <;> rfl), by repeat (first | (with_reducible first | exact HB.out | apply below_alloc | apply pw_below_drewN | apply below_drew1) | exact HB.out)⟩
        · replace c24 := Bool.eq_false_iff.mpr c24
          subst c24
          have H1 : (if t367 = true then ((impl_DecodeBy.f kj9 t360 t366).bind fun bt379 => (if bt379.2 = true then ((laws_sameInts.f kj9 bt379.1 t361).bind fun t383 => (if t383 = true then (laws_FnCoded.j1 kj9 l1 t360 t370) else (some false))) else (some false))) else (laws_FnCoded.j1 kj9 l1 t360 t370)) = some r := by rw [if_neg (show ¬ (false = true) by decide)] at H; exact H
          clear H
          have H := H1
          clear H1
          have HC25 := Aside0.mk H
          clear H
          go_upto_if 78 with (fail)
          go_cut [] (fun wc => ∃ (kq : Nat), Aside0 (laws_FnCoded.j1 kq l1 t360 t370 = some r) ∧ Aside0 (kq ≤ kj9) ∧ Aside0 (Kd.R (Kd.int .i64) 3 wc w.heap.size (fun _ => True) (.slice Ao12 t360.length co12) t360) ∧ Aside0 (Kd.R Kd.string 9 wc w.heap.size (fun _ => True) v372 t370) ∧ Aside0 (Below w.heap.size w wc))
          case first =>
            have H := HC25.out
            clear HC25
            by_cases c26 : t367 = true
            · subst c26
              have H1 : ((impl_DecodeBy.f kj9 t360 t366).bind fun bt379 => (if bt379.2 = true then ((laws_sameInts.f kj9 bt379.1 t361).bind fun t383 => (if t383 = true then (laws_FnCoded.j1 kj9 l1 t360 t370) else (some false))) else (some false))) = some r := by rw [if_pos rfl] at H; exact H
              clear H
              have H := H1
              clear H1
              replace H := Option.bind_eq_some_iff.mp H
              obtain ⟨⟨t379, t380⟩, A270, H⟩ := H
              replace H : (if t380 = true then ((laws_sameInts.f kj9 t379 t361).bind fun t383 => (if t383 = true then (laws_FnCoded.j1 kj9 l1 t360 t370) else (some false))) else (some false)) = some r := H
              have A27 := Aside0.mk A270
              clear A270
              by_cases c28 : t380 = true
              · subst c28
                have H1 : ((laws_sameInts.f kj9 t379 t361).bind fun t383 => (if t383 = true then (laws_FnCoded.j1 kj9 l1 t360 t370) else (some false))) = some r := by rw [if_pos rfl] at H; exact H
                clear H
                have H := H1
                clear H1
                replace H := Option.bind_eq_some_iff.mp H
                obtain ⟨t383, A290, H⟩ := H
                replace H : (if t383 = true then (laws_FnCoded.j1 kj9 l1 t360 t370) else (some false)) = some r := H
                have A29 := Aside0.mk A290
                clear A290
                by_cases c30 : t383 = true
                · subst c30
                  have H1 : (laws_FnCoded.j1 kj9 l1 t360 t370) = some r := by rw [if_pos rfl] at H; exact H
                  clear H
                  have H := H1
                  clear H1
                  have H' := Aside0.mk H
                  clear H
                  go_wp2_with (first | ((with_reducible refine gate_callee (f := 11) rfl ?_); refine goesL_ (some 82) rfl rfl Tryd.func11 (by kernel_rfl) rfl #[.slice Ao12 t360.length co12, .string t366] rfl (by (try simp only [List.map_toArray, List.map_cons, List.map_nil]); first | done | rfl | (simp only [List.length_drop, List.length_take]; rfl)) ?_; (with_reducible refine (impl_DecodeBy.calls kj9 _ _ t360 t366 t379 true _ ?side1 ?side2 A27.out).mono ?_); (case side1 => repeat (first | exact (Kd.R_reads' HO_5.out).2.2 | (with_reducible refine Kd.C_alloc ?_ _) | (with_reducible refine Kd.C_drewN ?_ _) | (with_reducible refine Kd.C_drew ?_))); (case side2 => exact (Kd.R_reads' HO_5.out).2.1); rintro e w31 ⟨v381, rfl, ho0, hb⟩; refine ⟨_, rfl, ?_⟩; have n0_ := Aside0.mk (Kd.R_elder' (by (with_reducible repeat (first | apply Kd.R_alloc | apply Kd.R_drewN | apply Kd.R_drew)); exact HO_5.out) (Kd.R_base ho0) hb); have n1_ := Aside0.mk (Kd.R_elder' (by (with_reducible repeat (first | apply Kd.R_alloc | apply Kd.R_drewN | apply Kd.R_drew)); exact HO_6.out) (Kd.R_base ho0) hb); have n2_ := Aside0.mk (Kd.R_below (by (with_reducible repeat (first | apply Kd.R_alloc | apply Kd.R_drewN | apply Kd.R_drew)); exact HO_11.out) hb); have n3_ := Aside0.mk (Kd.R_lower (Kd.R_new' (Kd.R_new' ho0 (Kd.R_lt (by (with_reducible repeat (first | apply Kd.R_alloc | apply Kd.R_drewN | apply Kd.R_drew)); exact HO_5.out))) (Kd.R_lt (by (with_reducible repeat (first | apply Kd.R_alloc | apply Kd.R_drewN | apply Kd.R_drew)); exact HO_6.out))) (below_size (by repeat (first | (with_reducible first | exact HB.out | apply below_alloc | apply pw_below_drewN | apply below_drew1) | exact HB.out)))); have n4_ := Aside0.mk (below_step (by repeat (first | (with_reducible first | exact HB.out | apply below_alloc | apply pw_below_drewN | apply below_drew1) | exact HB.out)) hb); clear HO_5; clear HO_6; clear HO_11; clear HB; have HO_5 := n0_; have HO_6 := n1_; have HO_11 := n2_; have HO382 := n3_; have HB := n4_; clear n0_ n1_ n2_ n3_ n4_; (try clear hb); (try clear hb2); (try clear hk); (try clear hi); (try clear ho0); obtain ⟨Ao32, co32, eo32⟩ := Kd.R_slice HO382.out; subst eo32) | (go_at_call 12; (with_reducible refine (laws_sameInts.calls kj9 _ _ t379 _ _ t361 true _ ?side1 ?side2 ?side3 ?side4 A29.out).mono ?_); (case side1 => repeat (first | exact (Kd.R_reads' HO382.out).2.2 | (with_reducible refine Kd.C_alloc ?_ _) | (with_reducible refine Kd.C_drewN ?_ _) | (with_reducible refine Kd.C_drew ?_))); (case side2 => exact (Kd.R_reads' HO382.out).2.1); (case side3 => repeat (first | exact (Kd.R_reads' HO_6.out).2.2 | (with_reducible refine Kd.C_alloc ?_ _) | (with_reducible refine Kd.C_drewN ?_ _) | (with_reducible refine Kd.C_drew ?_))); (case side4 => exact (Kd.R_reads' HO_6.out).2.1); rintro e w' ⟨rfl, ⟨nd, rfl⟩⟩))
                  go_meet
                  case rel => exact ⟨_, H', ⟨by have := HJ9.out; first | omega | exact Nat.le_refl _⟩, ⟨by (with_reducible repeat (first | apply Kd.R_alloc | apply Kd.R_drewN | apply Kd.R_drew)); exact Kd.R_mono HO_5.out (fun _ hk => trivial)⟩, ⟨by (with_reducible repeat (first | apply Kd.R_alloc | apply Kd.R_drewN | apply Kd.R_drew)); exact HO_11.out⟩, ⟨by repeat (first | (with_reducible first | exact HB.out | apply below_alloc | apply pw_below_drewN | apply below_drew1) | exact HB.out)⟩⟩
                · replace c30 := Bool.eq_false_iff.mpr c30
                  subst c30
                  have H1 : (some false) = some r := by rw [if_neg (show ¬ (false = true) by decide)] at H; exact H
                  clear H
                  have H := H1
                  clear H1
                  obtain rfl := Option.some.inj H
                  go_wp2_with (first | ((with_reducible refine gate_callee (f := 11) rfl ?_); refine goesL_ (some 82) rfl rfl Tryd.func11 (by kernel_rfl) rfl #[.slice Ao12 t360.length co12, .string t366] rfl (by (try simp only [List.map_toArray, List.map_cons, List.map_nil]); first | done | rfl | (simp only [List.length_drop, List.length_take]; rfl)) ?_; (with_reducible refine (impl_DecodeBy.calls kj9 _ _ t360 t366 t379 true _ ?side1 ?side2 A27.out).mono ?_); (case side1 => repeat (first | exact (Kd.R_reads' HO_5.out).2.2 | (with_reducible refine Kd.C_alloc ?_ _) | (with_reducible refine Kd.C_drewN ?_ _) | (with_reducible refine Kd.C_drew ?_))); (case side2 => exact (Kd.R_reads' HO_5.out).2.1); rintro e w33 ⟨v381, rfl, ho0, hb⟩; refine ⟨_, rfl, ?_⟩; have n0_ := Aside0.mk (Kd.R_elder' (by (with_reducible repeat (first | apply Kd.R_alloc | apply Kd.R_drewN | apply Kd.R_drew)); exact HO_5.out) (Kd.R_base ho0) hb); have n1_ := Aside0.mk (Kd.R_elder' (by (with_reducible repeat (first | apply Kd.R_alloc | apply Kd.R_drewN | apply Kd.R_drew)); exact HO_6.out) (Kd.R_base ho0) hb); have n2_ := Aside0.mk (Kd.R_below (by (with_reducible repeat (first | apply Kd.R_alloc | apply Kd.R_drewN | apply Kd.R_drew)); exact HO_11.out) hb); have n3_ := Aside0.mk (Kd.R_lower (Kd.R_new' (Kd.R_new' ho0 (Kd.R_lt (by (with_reducible repeat (first | apply Kd.R_alloc | apply Kd.R_drewN | apply Kd.R_drew)); exact HO_5.out))) (Kd.R_lt (by (with_reducible repeat (first | apply Kd.R_alloc | apply Kd.R_drewN | apply Kd.R_drew)); exact HO_6.out))) (below_size (by repeat (first | (with_reducible first | exact HB.out | apply below_alloc | apply pw_below_drewN | apply below_drew1) | exact HB.out)))); have n4_ := Aside0.mk (below_step (by repeat (first | (with_reducible first | exact HB.out | apply below_alloc | apply pw_below_drewN | apply below_drew1) | exact HB.out)) hb); clear HO_5; clear HO_6; clear HO_11; clear HB; have HO_5 := n0_; have HO_6 := n1_; have HO_11 := n2_; have HO382 := n3_; have HB := n4_; clear n0_ n1_ n2_ n3_ n4_; (try clear hb); (try clear hb2); (try clear hk); (try clear hi); (try clear ho0); obtain ⟨Ao34, co34, eo34⟩ := Kd.R_slice HO382.out; subst eo34) | (go_at_call 12; (with_reducible refine (laws_sameInts.calls kj9 _ _ t379 _ _ t361 false _ ?side1 ?side2 ?side3 ?side4 A29.out).mono ?_); (case side1 => repeat (first | exact (Kd.R_reads' HO382.out).2.2 | (with_reducible refine Kd.C_alloc ?_ _) | (with_reducible refine Kd.C_drewN ?_ _) | (with_reducible refine Kd.C_drew ?_))); (case side2 => exact (Kd.R_reads' HO382.out).2.1); (case side3 => repeat (first | exact (Kd.R_reads' HO_6.out).2.2 | (with_reducible refine Kd.C_alloc ?_ _) | (with_reducible refine Kd.C_drewN ?_ _) | (with_reducible refine Kd.C_drew ?_))); (case side4 => exact (Kd.R_reads' HO_6.out).2.1); rintro e w' ⟨rfl, ⟨nd, rfl⟩⟩))
                  go_ret
                  exact ⟨by first | rfl | (simp [errW_none, errW_some] <;> rfl) | (simp [*, errW_none, errW_some] <;> rfl), by repeat (first | (with_reducible first | exact HB.out | apply below_alloc | apply pw_below_drewN | apply below_drew1) | exact HB.out)⟩
              · replace c28 := Bool.eq_false_iff.mpr c28
                subst c28
                have H1 : (some false) = some r := by rw [if_neg (show ¬ (false = true) by decide)] at H; exact H
                clear H
                have H := H1
                clear H1
                obtain rfl := Option.some.inj H
                go_wp2_with (first | ((with_reducible refine gate_callee (f := 11) rfl ?_); refine goesL_ (some 82) rfl rfl Tryd.func11 (by kernel_rfl) rfl #[.slice Ao12 t360.length co12, .string t366] rfl (by (try simp only [List.map_toArray, List.map_cons, List.map_nil]); first | done | rfl | (simp only [List.length_drop, List.length_take]; rfl)) ?_; (with_reducible refine (impl_DecodeBy.calls kj9 _ _ t360 t366 t379 false _ ?side1 ?side2 A27.out).mono ?_); (case side1 => repeat (first | exact (Kd.R_reads' HO_5.out).2.2 | (with_reducible refine Kd.C_alloc ?_ _) | (with_reducible refine Kd.C_drewN ?_ _) | (with_reducible refine Kd.C_drew ?_))); (case side2 => exact (Kd.R_reads' HO_5.out).2.1); rintro e w35 ⟨v381, rfl, ho0, hb⟩; refine ⟨_, rfl, ?_⟩; have n0_ := Aside0.mk (Kd.R_elder' (by (with_reducible repeat (first | apply Kd.R_alloc | apply Kd.R_drewN | apply Kd.R_drew)); exact HO_5.out) (Kd.R_base ho0) hb); have n1_ := Aside0.mk (Kd.R_elder' (by (with_reducible repeat (first | apply Kd.R_alloc | apply Kd.R_drewN | apply Kd.R_drew)); exact HO_6.out) (Kd.R_base ho0) hb); have n2_ := Aside0.mk (Kd.R_below (by (with_reducible repeat (first | apply Kd.R_alloc | apply Kd.R_drewN | apply Kd.R_drew)); exact HO_11.out) hb); have n3_ := Aside0.mk (Kd.R_lower (Kd.R_new' (Kd.R_new' ho0 (Kd.R_lt (by (with_reducible repeat (first | apply Kd.R_alloc | apply Kd.R_drewN | apply Kd.R_drew)); exact HO_5.out))) (Kd.R_lt (by (with_reducible repeat (first | apply Kd.R_alloc | apply Kd.R_drewN | apply Kd.R_drew)); exact HO_6.out))) (below_size (by repeat (first | (with_reducible first | exact HB.out | apply below_alloc | apply pw_below_drewN | apply below_drew1) | exact HB.out)))); have n4_ := Aside0.mk (below_step (by repeat (first | (with_reducible first | exact HB.out | apply below_alloc | apply pw_below_drewN | apply below_drew1) | exact HB.out)) hb); clear HO_5; clear HO_6; clear HO_11; clear HB; have HO_5 := n0_; have HO_6 := n1_; have HO_11 := n2_; have HO382 := n3_; have HB := n4_; clear n0_ n1_ n2_ n3_ n4_; (try clear hb); (try clear hb2); (try clear hk); (try clear hi); (try clear ho0)))
                go_ret
                exact ⟨by first | rfl | (simp [errW_none, errW_some] <;> rfl) | (simp [*, errW_none, errW_some] <;> rfl), by repeat (first | (with_reducible first | exact HB.out | apply below_alloc | apply pw_below_drewN | apply below_drew1) | exact HB.out)⟩
            · replace c26 := Bool.eq_false_iff.mpr c26
              subst c26
              have H1 : (laws_FnCoded.j1 kj9 l1 t360 t370) = some r := by rw [if_neg (show ¬ (false = true) by decide)] at H; exact H
              clear H
              have H := H1
              clear H1
              have H' := Aside0.mk H
              clear H
              go_wp2
              go_meet
              case rel => exact ⟨_, H', ⟨by have := HJ9.out; first | omega | exact Nat.le_refl _⟩, ⟨by (with_reducible repeat (first | apply Kd.R_alloc | apply Kd.R_drewN | apply Kd.R_drew)); exact Kd.R_mono HO_5.out (fun _ hk => trivial)⟩, ⟨by (with_reducible repeat (first | apply Kd.R_alloc | apply Kd.R_drewN | apply Kd.R_drew)); exact HO_11.out⟩, ⟨by repeat (first | (with_reducible first | exact HB.out | apply below_alloc | apply pw_below_drewN | apply below_drew1) | exact HB.out)⟩⟩
          case rest =>
            clear HC25
            try clear c1
            try clear c2
            try clear p2
            try clear c3
            try clear c4
            try clear c5
            try clear c6
            try clear c7
            try clear c8
            try clear c9
            try clear c11
            try clear c18
            try clear c18b0
            try clear c18b1
            try clear c18b2
            try clear c19
            try clear c19b0
            try clear c19b1
            try clear c20
            try clear c20b0
            try clear c20b1
            try clear c20b2
            try clear c24
            try clear c26
            try clear c28
            try clear c30
            try clear p2
            obtain ⟨kq, HA, HJ24, HO_5, HO_11, HB⟩ := hcut
            cases kq with
            | zero => exact absurd HA.out (by simp [laws_FnCoded.j1])
            | succ kj24 =>
              have H := HA.out
              clear HA
              simp only [laws_FnCoded.j1] at H
              have H' := Aside0.mk H
              clear H
              obtain ⟨Ao36, co36, eo36⟩ := Kd.R_slice HO_11.out
              subst eo36
              go_wp2
              go_loopg [95] kj24 (fun kq v95 w' => ∃ (x95_3 : Int), v95 = .int .i64 x95_3 ∧ Aside0 (laws_FnCoded.l0 kq l1 t360 t370 t370 (t370.length : Int) x95_3 = some r) ∧ Aside0 (kq ≤ kj24) ∧ Aside0 (Kd.R (Kd.int .i64) 3 w' w.heap.size (fun _ => True) (.slice Ao12 t360.length co12) t360) ∧ Aside0 (Kd.R Kd.string 9 w' w.heap.size (fun _ => True) (.slice Ao36 t370.length co36) t370) ∧ Aside0 (Kd.R Kd.string 9 w' w.heap.size (fun _ => True) (.slice Ao36 t370.length co36) t370) ∧ Aside0 (Below w.heap.size w w'))
              case atStart => exact ⟨(0), (by first | rfl | (simp; done) | (simp [*]; done)), H', ⟨Nat.le_refl _⟩, ⟨by (with_reducible repeat (first | apply Kd.R_alloc | apply Kd.R_drewN | apply Kd.R_drew)); exact HO_5.out⟩, ⟨by (with_reducible repeat (first | apply Kd.R_alloc | apply Kd.R_drewN | apply Kd.R_drew)); exact HO_11.out⟩, ⟨by (with_reducible repeat (first | apply Kd.R_alloc | apply Kd.R_drewN | apply Kd.R_drew)); exact HO_11.out⟩, ⟨by repeat (first | (with_reducible first | exact HB.out | apply below_alloc | apply pw_below_drewN | apply below_drew1) | exact HB.out)⟩⟩
              case round =>
                clear H'
                try clear c1
                try clear c2
                try clear p2
                try clear c3
                try clear c4
                try clear c5
                try clear c6
                try clear c7
                try clear c8
                try clear c9
                try clear c11
                try clear c18
                try clear c18b0
                try clear c18b1
                try clear c18b2
                try clear c19
                try clear c19b0
                try clear c19b1
                try clear c20
                try clear c20b0
                try clear c20b1
                try clear c20b2
                try clear c24
                try clear c26
                try clear c28
                try clear c30
                try clear p2
                obtain ⟨x95_3, rfl, HA, HK3, HO_5, HO_11, HO_93, HB⟩ := hrel
                cases gk with
                | zero => exact absurd HA.out (by simp [laws_FnCoded.l0])
                | succ k3 =>
                  have H := HA.out
                  clear HA
                  simp only [laws_FnCoded.l0] at H
                  by_cases c37 : x95_3 < (t370.length : Int)
                  · rw [if_pos c37] at H
                    have c37b0 : decide (x95_3 < (t370.length : Int)) = true := decide_eq_true c37
                    clear c37
                    by_cases c38 : 0 ≤ x95_3
                    · rw [if_pos c38] at H
                      have c38b0 : decide (0 ≤ x95_3) = true := decide_eq_true c38
                      clear c38
                      by_cases c39 : x95_3 < (t370.length : Int)
                      · rw [if_pos c39] at H
                        have c39b0 : decide (x95_3 < (t370.length : Int)) = true := decide_eq_true c39
                        clear c39
                        have H' := Aside0.mk H
                        clear H
                        have p384 : 0 ≤ (x95_3 : Int) := of_decide_eq_true (by first | (with_reducible assumption) | assumption)
                        have q384 : x95_3 < (t370.length : Int) := of_decide_eq_true (by first | (with_reducible assumption) | assumption)
                        obtain ⟨ad384, e384, hx384_0⟩ := Kd.at_string (Kd.R_reads' HO_93.out).2.2 x95_3 p384 q384
                        cases e384
                        replace p384 := eq_true p384
                        replace q384 := eq_true q384
                        go_wp2
                        go_loopg [102] k3 (fun kq v102 w' => ∃ (x102_4 : Int), v102 = .int .i64 x102_4 ∧ Aside0 (laws_FnCoded.l1 kq l1 t360 t370 x95_3 (rdOf ByteArray.empty t370 x95_3) t370 (t370.length : Int) x95_3 t370 (t370.length : Int) x102_4 = some r) ∧ Aside0 (kq ≤ k3) ∧ Aside0 (Kd.R (Kd.int .i64) 3 w' w.heap.size (fun _ => True) (.slice Ao12 t360.length co12) t360) ∧ Aside0 (Kd.R Kd.string 9 w' w.heap.size (fun _ => True) (.slice (some ad384) t370.length co36) t370) ∧ Aside0 (Kd.R Kd.string 9 w' w.heap.size (fun _ => True) (.slice (some ad384) t370.length co36) t370) ∧ Aside0 (Kd.R Kd.string 9 w' w.heap.size (fun _ => True) (.slice (some ad384) t370.length co36) t370) ∧ Aside0 (Below w.heap.size w w'))
                        case atStart => exact ⟨(0), (by first | rfl | (simp; done) | (simp [*]; done)), H', ⟨Nat.le_refl _⟩, ⟨by (with_reducible repeat (first | apply Kd.R_alloc | apply Kd.R_drewN | apply Kd.R_drew)); exact HO_5.out⟩, ⟨by (with_reducible repeat (first | apply Kd.R_alloc | apply Kd.R_drewN | apply Kd.R_drew)); exact HO_11.out⟩, ⟨by (with_reducible repeat (first | apply Kd.R_alloc | apply Kd.R_drewN | apply Kd.R_drew)); exact HO_93.out⟩, ⟨by (with_reducible repeat (first | apply Kd.R_alloc | apply Kd.R_drewN | apply Kd.R_drew)); exact HO_11.out⟩, ⟨by repeat (first | (with_reducible first | exact HB.out | apply below_alloc | apply pw_below_drewN | apply below_drew1) | exact HB.out)⟩⟩
                        case round =>
                          clear H'
                          try clear c1
                          try clear c2
                          try clear p2
                          try clear c3
                          try clear p3
                          try clear q3
                          try clear hx3
                          try clear c4
                          try clear c5
                          try clear c6
                          try clear c7
                          try clear c8
                          try clear c9
                          try clear c11
                          try clear c18
                          try clear c18b0
                          try clear c18b1
                          try clear c18b2
                          try clear c19
                          try clear c19b0
                          try clear c19b1
                          try clear c20
                          try clear c20b0
                          try clear c20b1
                          try clear c20b2
                          try clear c24
                          try clear c26
                          try clear c28
                          try clear c30
                          try clear c37
                          try clear c37b0
                          try clear c38
                          try clear c38b0
                          try clear p38
                          try clear q38
                          try clear hx38
                          try clear c39
                          try clear c39b0
                          try clear hx384_0
                          try clear p2
                          try clear p384
                          try clear q384
                          obtain ⟨x102_4, rfl, HA, HK4, HO_5, HO_11, HO_93, HO_100, HB⟩ := hrel
                          cases gk with
                          | zero => exact absurd HA.out (by simp [laws_FnCoded.l1])
                          | succ k4 =>
                            have H := HA.out
                            clear HA
                            simp only [laws_FnCoded.l1] at H
                            by_cases c40 : x102_4 < (t370.length : Int)
                            · rw [if_pos c40] at H
                              have c40b0 : decide (x102_4 < (t370.length : Int)) = true := decide_eq_true c40
                              clear c40
                              by_cases c41 : 0 ≤ x102_4
                              · rw [if_pos c41] at H
                                have c41b0 : decide (0 ≤ x102_4) = true := decide_eq_true c41
                                clear c41
                                by_cases c42 : x102_4 < (t370.length : Int)
                                · rw [if_pos c42] at H
                                  have c42b0 : decide (x102_4 < (t370.length : Int)) = true := decide_eq_true c42
                                  clear c42
                                  by_cases c43 : x95_3 = x102_4
                                  · rw [if_pos c43] at H
                                    have c43b0 : (x95_3 == x102_4) = true := beq_iff_eq.mpr c43
                                    have c43b1 : (x95_3 != x102_4) = false := bne_eq_false_iff_eq.mpr c43
                                    clear c43
                                    by_cases c44 : 0 ≤ x95_3
                                    · rw [if_pos c44] at H
                                      have c44b0 : decide (0 ≤ x95_3) = true := decide_eq_true c44
                                      clear c44
                                      by_cases c45 : x95_3 < (t360.length : Int)
                                      · rw [if_pos c45] at H
                                        have c45b0 : decide (x95_3 < (t360.length : Int)) = true := decide_eq_true c45
                                        clear c45
                                        by_cases c46 : ((rdOf ByteArray.empty t370 x95_3).size : Int) = (rd t360 x95_3)
                                        · rw [if_pos c46] at H
                                          have c46b0 : (((rdOf ByteArray.empty t370 x95_3).size : Int) == (rd t360 x95_3)) = true := beq_iff_eq.mpr c46
                                          have c46b1 : (((rdOf ByteArray.empty t370 x95_3).size : Int) != (rd t360 x95_3)) = false := bne_eq_false_iff_eq.mpr c46
                                          clear c46
                                          have H' := Aside0.mk H
                                          clear H
                                          have p385 : 0 ≤ (x102_4 : Int) := of_decide_eq_true (by first | (with_reducible assumption) | assumption)
                                          have q385 : x102_4 < (t370.length : Int) := of_decide_eq_true (by first | (with_reducible assumption) | assumption)
                                          obtain ⟨ad385, e385, hx385_0⟩ := Kd.at_string (Kd.R_reads' HO_100.out).2.2 x102_4 p385 q385
                                          obtain rfl : ad384 = ad385 := (by injection e385)
                                          replace p385 := eq_true p385
                                          replace q385 := eq_true q385
                                          have p386 : 0 ≤ (x95_3 : Int) := of_decide_eq_true (by first | (with_reducible assumption) | assumption)
                                          have q386 : x95_3 < (t360.length : Int) := of_decide_eq_true (by first | (with_reducible assumption) | assumption)
                                          obtain ⟨ad386, e386, hx386_0⟩ := Kd.at_int (Kd.R_reads' HO_5.out).2.2 x95_3 p386 q386
                                          cases e386
                                          replace p386 := eq_true p386
                                          replace q386 := eq_true q386
                                          go_wp2
                                          go_roundg k4
                                          case measure => have := HJ9.out; have := HJ24.out; have := HK3.out; have := HK4.out; omega
                                          case rel => exact ⟨(wrap64 (x102_4 + 1)), (by first | rfl | (simp; done) | (simp [*]; done)), H', ⟨by have := HJ9.out; have := HJ24.out; have := HK3.out; have := HK4.out; omega⟩, ⟨by (with_reducible repeat (first | apply Kd.R_alloc | apply Kd.R_drewN | apply Kd.R_drew)); exact HO_5.out⟩, ⟨by (with_reducible repeat (first | apply Kd.R_alloc | apply Kd.R_drewN | apply Kd.R_drew)); exact HO_11.out⟩, ⟨by (with_reducible repeat (first | apply Kd.R_alloc | apply Kd.R_drewN | apply Kd.R_drew)); exact HO_93.out⟩, ⟨by (with_reducible repeat (first | apply Kd.R_alloc | apply Kd.R_drewN | apply Kd.R_drew)); exact HO_100.out⟩, ⟨by repeat (first | (with_reducible first | exact HB.out | apply below_alloc | apply pw_below_drewN | apply below_drew1) | exact HB.out)⟩⟩
                                        · rw [if_neg c46] at H
                                          have c46b0 : (((rdOf ByteArray.empty t370 x95_3).size : Int) == (rd t360 x95_3)) = false := beq_eq_false_iff_ne.mpr c46
                                          have c46b1 : (((rdOf ByteArray.empty t370 x95_3).size : Int) != (rd t360 x95_3)) = true := bne_iff_ne.mpr c46
                                          obtain rfl := Option.some.inj H
                                          have p385 : 0 ≤ (x102_4 : Int) := of_decide_eq_true (by first | (with_reducible assumption) | assumption)
                                          have q385 : x102_4 < (t370.length : Int) := of_decide_eq_true (by first | (with_reducible assumption) | assumption)
                                          obtain ⟨ad385, e385, hx385_0⟩ := Kd.at_string (Kd.R_reads' HO_100.out).2.2 x102_4 p385 q385
                                          obtain rfl : ad384 = ad385 := (by injection e385)
                                          replace p385 := eq_true p385
                                          replace q385 := eq_true q385
                                          have p386 : 0 ≤ (x95_3 : Int) := of_decide_eq_true (by first | (with_reducible assumption) | assumption)
                                          have q386 : x95_3 < (t360.length : Int) := of_decide_eq_true (by first | (with_reducible assumption) | assumption)
                                          obtain ⟨ad386, e386, hx386_0⟩ := Kd.at_int (Kd.R_reads' HO_5.out).2.2 x95_3 p386 q386
                                          cases e386
                                          replace p386 := eq_true p386
                                          replace q386 := eq_true q386
                                          go_wp2
                                          go_ret
                                          exact ⟨by first | rfl | (simp [errW_none, errW_some] <;> rfl) | (simp [*, errW_none, errW_some] <;> rfl), by repeat (first | (with_reducible first | exact HB.out | apply below_alloc | apply pw_below_drewN | apply below_drew1) | exact HB.out)⟩
                                      · rw [if_neg c45] at H
                                        exact absurd H (by simp)
                                    · rw [if_neg c44] at H
                                      exact absurd H (by simp)
                                  · rw [if_neg c43] at H
                                    have c43b0 : (x95_3 == x102_4) = false := beq_eq_false_iff_ne.mpr c43
                                    have c43b1 : (x95_3 != x102_4) = true := bne_iff_ne.mpr c43
                                    by_cases c47 : (rdOf ByteArray.empty t370 x95_3).toList = ([] : List UInt8)
                                    · rw [if_pos c47] at H
                                      have c47b0 : ((rdOf ByteArray.empty t370 x95_3).toList == ([] : List UInt8)) = true := beq_iff_eq.mpr c47
                                      have c47b1 : ((rdOf ByteArray.empty t370 x95_3).toList != ([] : List UInt8)) = false := bne_eq_false_iff_eq.mpr c47
                                      clear c47
                                      by_cases c48 : 0 ≤ x95_3
                                      · rw [if_pos c48] at H
                                        have c48b0 : decide (0 ≤ x95_3) = true := decide_eq_true c48
                                        clear c48
                                        by_cases c49 : x95_3 < (t360.length : Int)
                                        · rw [if_pos c49] at H
                                          have c49b0 : decide (x95_3 < (t360.length : Int)) = true := decide_eq_true c49
                                          clear c49
                                          by_cases c50 : ((rdOf ByteArray.empty t370 x95_3).size : Int) = (rd t360 x95_3)
                                          · rw [if_pos c50] at H
                                            have c50b0 : (((rdOf ByteArray.empty t370 x95_3).size : Int) == (rd t360 x95_3)) = true := beq_iff_eq.mpr c50
                                            have c50b1 : (((rdOf ByteArray.empty t370 x95_3).size : Int) != (rd t360 x95_3)) = false := bne_eq_false_iff_eq.mpr c50
                                            clear c50
                                            have H' := Aside0.mk H
                                            clear H
                                            have p385 : 0 ≤ (x102_4 : Int) := of_decide_eq_true (by first | (with_reducible assumption) | assumption)
                                            have q385 : x102_4 < (t370.length : Int) := of_decide_eq_true (by first | (with_reducible assumption) | assumption)
                                            obtain ⟨ad385, e385, hx385_0⟩ := Kd.at_string (Kd.R_reads' HO_100.out).2.2 x102_4 p385 q385
                                            obtain rfl : ad384 = ad385 := (by injection e385)
                                            replace p385 := eq_true p385
                                            replace q385 := eq_true q385
                                            have p387 : 0 ≤ (x95_3 : Int) := of_decide_eq_true (by first | (with_reducible assumption) | assumption)
                                            have q387 : x95_3 < (t360.length : Int) := of_decide_eq_true (by first | (with_reducible assumption) | assumption)
                                            obtain ⟨ad387, e387, hx387_0⟩ := Kd.at_int (Kd.R_reads' HO_5.out).2.2 x95_3 p387 q387
                                            cases e387
                                            replace p387 := eq_true p387
                                            replace q387 := eq_true q387
                                            go_wp2
                                            go_roundg k4
                                            case measure => have := HJ9.out; have := HJ24.out; have := HK3.out; have := HK4.out; omega
                                            case rel => exact ⟨(wrap64 (x102_4 + 1)), (by first | rfl | (simp; done) | (simp [*]; done)), H', ⟨by have := HJ9.out; have := HJ24.out; have := HK3.out; have := HK4.out; omega⟩, ⟨by (with_reducible repeat (first | apply Kd.R_alloc | apply Kd.R_drewN | apply Kd.R_drew)); exact HO_5.out⟩, ⟨by (with_reducible repeat (first | apply Kd.R_alloc | apply Kd.R_drewN | apply Kd.R_drew)); exact HO_11.out⟩, ⟨by (with_reducible repeat (first | apply Kd.R_alloc | apply Kd.R_drewN | apply Kd.R_drew)); exact HO_93.out⟩, ⟨by (with_reducible repeat (first | apply Kd.R_alloc | apply Kd.R_drewN | apply Kd.R_drew)); exact HO_100.out⟩, ⟨by repeat (first | (with_reducible first | exact HB.out | apply below_alloc | apply pw_below_drewN | apply below_drew1) | exact HB.out)⟩⟩
                                          · rw [if_neg c50] at H
                                            have c50b0 : (((rdOf ByteArray.empty t370 x95_3).size : Int) == (rd t360 x95_3)) = false := beq_eq_false_iff_ne.mpr c50
                                            have c50b1 : (((rdOf ByteArray.empty t370 x95_3).size : Int) != (rd t360 x95_3)) = true := bne_iff_ne.mpr c50
                                            obtain rfl := Option.some.inj H
                                            have p385 : 0 ≤ (x102_4 : Int) := of_decide_eq_true (by first | (with_reducible assumption) | assumption)
                                            have q385 : x102_4 < (t370.length : Int) := of_decide_eq_true (by first | (with_reducible assumption) | assumption)
                                            obtain ⟨ad385, e385, hx385_0⟩ := Kd.at_string (Kd.R_reads' HO_100.out).2.2 x102_4 p385 q385
                                            obtain rfl : ad384 = ad385 := (by injection e385)
                                            replace p385 := eq_true p385
                                            replace q385 := eq_true q385
                                            have p387 : 0 ≤ (x95_3 : Int) := of_decide_eq_true (by first | (with_reducible assumption) | assumption)
                                            have q387 : x95_3 < (t360.length : Int) := of_decide_eq_true (by first | (with_reducible assumption) | assumption)
                                            obtain ⟨ad387, e387, hx387_0⟩ := Kd.at_int (Kd.R_reads' HO_5.out).2.2 x95_3 p387 q387
                                            cases e387
                                            replace p387 := eq_true p387
                                            replace q387 := eq_true q387
                                            go_wp2
                                            go_ret
                                            exact ⟨by first | rfl | (simp [errW_none, errW_some] <;> rfl) | (simp [*, errW_none, errW_some] <;> rfl), by repeat (first | (with_reducible first | exact HB.out | apply below_alloc | apply pw_below_drewN | apply below_drew1) | exact HB.out)⟩
                                        · rw [if_neg c49] at H
                                          exact absurd H (by simp)
                                      · rw [if_neg c48] at H
                                        exact absurd H (by simp)
                                    · rw [if_neg c47] at H
                                      have c47b0 : ((rdOf ByteArray.empty t370 x95_3).toList == ([] : List UInt8)) = false := beq_eq_false_iff_ne.mpr c47
                                      have c47b1 : ((rdOf ByteArray.empty t370 x95_3).toList != ([] : List UInt8)) = true := bne_iff_ne.mpr c47
                                      by_cases c51 : ((rdOf ByteArray.empty t370 x102_4).size : Int) ≥ ((rdOf ByteArray.empty t370 x95_3).size : Int)
                                      · rw [if_pos c51] at H
                                        have c51b0 : decide (((rdOf ByteArray.empty t370 x95_3).size : Int) ≤ ((rdOf ByteArray.empty t370 x102_4).size : Int)) = true := decide_eq_true c51
                                        have c51b1 : decide ((rdOf ByteArray.empty t370 x95_3).size ≤ (rdOf ByteArray.empty t370 x102_4).size) = true := decide_eq_true (Int.ofNat_le.mp c51)
                                        clear c51
                                        by_cases c52 : 0 ≤ ((rdOf ByteArray.empty t370 x95_3).size : Int)
                                        · rw [if_pos c52] at H
                                          have c52b0 := eq_true c52
                                          have c52b1 : decide (0 ≤ ((rdOf ByteArray.empty t370 x95_3).size : Int)) = true := decide_eq_true c52
                                          clear c52
                                          by_cases c53 : ((rdOf ByteArray.empty t370 x95_3).size : Int) ≤ ((rdOf ByteArray.empty t370 x102_4).size : Int)
                                          · rw [if_pos c53] at H
                                            have c53b0 := eq_true c53
                                            have c53b1 : decide (((rdOf ByteArray.empty t370 x95_3).size : Int) ≤ ((rdOf ByteArray.empty t370 x102_4).size : Int)) = true := decide_eq_true c53
                                            clear c53
                                            by_cases c54 : ((rdOf ByteArray.empty t370 x102_4).extract 0 ((rdOf ByteArray.empty t370 x95_3).size)).toList = (rdOf ByteArray.empty t370 x95_3).toList
                                            · rw [if_pos c54] at H
                                              have c54b0 : (((rdOf ByteArray.empty t370 x102_4).extract 0 ((rdOf ByteArray.empty t370 x95_3).size)).toList == (rdOf ByteArray.empty t370 x95_3).toList) = true := beq_iff_eq.mpr c54
                                              have c54b1 : (((rdOf ByteArray.empty t370 x102_4).extract 0 ((rdOf ByteArray.empty t370 x95_3).size)).toList != (rdOf ByteArray.empty t370 x95_3).toList) = false := bne_eq_false_iff_eq.mpr c54
                                              clear c54
                                              obtain rfl := Option.some.inj H
                                              have p385 : 0 ≤ (x102_4 : Int) := of_decide_eq_true (by first | (with_reducible assumption) | assumption)
                                              have q385 : x102_4 < (t370.length : Int) := of_decide_eq_true (by first | (with_reducible assumption) | assumption)
                                              obtain ⟨ad385, e385, hx385_0⟩ := Kd.at_string (Kd.R_reads' HO_100.out).2.2 x102_4 p385 q385
                                              obtain rfl : ad384 = ad385 := (by injection e385)
                                              replace p385 := eq_true p385
                                              replace q385 := eq_true q385
                                              go_wp2
                                              go_ret
                                              exact ⟨by first | rfl | (simp [errW_none, errW_some] <;> rfl) | (simp [*, errW_none, errW_some] <;> rfl), by repeat (first | (with_reducible first | exact HB.out | apply below_alloc | apply pw_below_drewN | apply below_drew1) | exact HB.out)⟩
                                            · rw [if_neg c54] at H
                                              have c54b0 : (((rdOf ByteArray.empty t370 x102_4).extract 0 ((rdOf ByteArray.empty t370 x95_3).size)).toList == (rdOf ByteArray.empty t370 x95_3).toList) = false := beq_eq_false_iff_ne.mpr c54
                                              have c54b1 : (((rdOf ByteArray.empty t370 x102_4).extract 0 ((rdOf ByteArray.empty t370 x95_3).size)).toList != (rdOf ByteArray.empty t370 x95_3).toList) = true := bne_iff_ne.mpr c54
                                              by_cases c55 : 0 ≤ x95_3
                                              · rw [if_pos c55] at H
                                                have c55b0 : decide (0 ≤ x95_3) = true := decide_eq_true c55
                                                clear c55
                                                by_cases c56 : x95_3 < (t360.length : Int)
                                                · rw [if_pos c56] at H
                                                  have c56b0 : decide (x95_3 < (t360.length : Int)) = true := decide_eq_true c56
                                                  clear c56
                                                  by_cases c57 : ((rdOf ByteArray.empty t370 x95_3).size : Int) = (rd t360 x95_3)
                                                  · rw [if_pos c57] at H
                                                    have c57b0 : (((rdOf ByteArray.empty t370 x95_3).size : Int) == (rd t360 x95_3)) = true := beq_iff_eq.mpr c57
                                                    have c57b1 : (((rdOf ByteArray.empty t370 x95_3).size : Int) != (rd t360 x95_3)) = false := bne_eq_false_iff_eq.mpr c57
                                                    clear c57
                                                    have H' := Aside0.mk H
                                                    clear H
                                                    have p385 : 0 ≤ (x102_4 : Int) := of_decide_eq_true (by first | (with_reducible assumption) | assumption)
                                                    have q385 : x102_4 < (t370.length : Int) := of_decide_eq_true (by first | (with_reducible assumption) | assumption)
                                                    obtain ⟨ad385, e385, hx385_0⟩ := Kd.at_string (Kd.R_reads' HO_100.out).2.2 x102_4 p385 q385
                                                    obtain rfl : ad384 = ad385 := (by injection e385)
                                                    replace p385 := eq_true p385
                                                    replace q385 := eq_true q385
                                                    have p388 : 0 ≤ (x95_3 : Int) := of_decide_eq_true (by first | (with_reducible assumption) | assumption)
                                                    have q388 : x95_3 < (t360.length : Int) := of_decide_eq_true (by first | (with_reducible assumption) | assumption)
                                                    obtain ⟨ad388, e388, hx388_0⟩ := Kd.at_int (Kd.R_reads' HO_5.out).2.2 x95_3 p388 q388
                                                    cases e388
                                                    replace p388 := eq_true p388
                                                    replace q388 := eq_true q388
                                                    go_wp2
                                                    go_roundg k4
                                                    case measure => have := HJ9.out; have := HJ24.out; have := HK3.out; have := HK4.out; omega
                                                    case rel => exact ⟨(wrap64 (x102_4 + 1)), (by first | rfl | (simp; done) | (simp [*]; done)), H', ⟨by have := HJ9.out; have := HJ24.out; have := HK3.out; have := HK4.out; omega⟩, ⟨by (with_reducible repeat (first | apply Kd.R_alloc | apply Kd.R_drewN | apply Kd.R_drew)); exact HO_5.out⟩, ⟨by (with_reducible repeat (first | apply Kd.R_alloc | apply Kd.R_drewN | apply Kd.R_drew)); exact HO_11.out⟩, ⟨by (with_reducible repeat (first | apply Kd.R_alloc | apply Kd.R_drewN | apply Kd.R_drew)); exact HO_93.out⟩, ⟨by (with_reducible repeat (first | apply Kd.R_alloc | apply Kd.R_drewN | apply Kd.R_drew)); exact HO_100.out⟩, ⟨by repeat (first | (with_reducible first | exact HB.out | apply below_alloc | apply pw_below_drewN | apply below_drew1) | exact HB.out)⟩⟩
                                                  · rw [if_neg c57] at H
                                                    have c57b0 : (((rdOf ByteArray.empty t370 x95_3).size : Int) == (rd t360 x95_3)) = false := beq_eq_false_iff_ne.mpr c57
                                                    have c57b1 : (((rdOf ByteArray.empty t370 x95_3).size : Int) != (rd t360 x95_3)) = true := bne_iff_ne.mpr c57
                                                    obtain rfl := Option.some.inj H
                                                    have p385 : 0 ≤ (x102_4 : Int) := of_decide_eq_true (by first | (with_reducible assumption) | assumption)
                                                    have q385 : x102_4 < (t370.length : Int) := of_decide_eq_true (by first | (with_reducible assumption) | assumption)
                                                    obtain ⟨ad385, e385, hx385_0⟩ := Kd.at_string (Kd.R_reads' HO_100.out).2.2 x102_4 p385 q385
                                                    obtain rfl : ad384 = ad385 := (by injection e385)
                                                    replace p385 := eq_true p385
                                                    replace q385 := eq_true q385
                                                    have p388 : 0 ≤ (x95_3 : Int) := of_decide_eq_true (by first | (with_reducible assumption) | assumption)
                                                    have q388 : x95_3 < (t360.length : Int) := of_decide_eq_true (by first | (with_reducible assumption) | assumption)
                                                    obtain ⟨ad388, e388, hx388_0⟩ := Kd.at_int (Kd.R_reads' HO_5.out).2.2 x95_3 p388 q388
                                                    cases e388
                                                    replace p388 := eq_true p388
                                                    replace q388 := eq_true q388
                                                    go_wp2
                                                    go_ret
                                                    exact ⟨by first | rfl | (simp [errW_none, errW_some] <;> rfl) | (simp [*, errW_none, errW_some] <;> rfl), by repeat (first | (with_reducible first | exact HB.out | apply below_alloc | apply pw_below_drewN | apply below_drew1) | exact HB.out)⟩
                                                · rw [if_neg c56] at H
                                                  exact absurd H (by simp)
                                              · rw [if_neg c55] at H
                                                exact absurd H (by simp)
                                          · rw [if_neg c53] at H
                                            exact absurd H (by simp)
                                        · rw [if_neg c52] at H
                                          exact absurd H (by simp)
                                      · rw [if_neg c51] at H
                                        have c51b0 : decide (((rdOf ByteArray.empty t370 x95_3).size : Int) ≤ ((rdOf ByteArray.empty t370 x102_4).size : Int)) = false := decide_eq_false c51
                                        have c51b1 : decide ((rdOf ByteArray.empty t370 x95_3).size ≤ (rdOf ByteArray.empty t370 x102_4).size) = false := decide_eq_false (fun h => c51 (Int.ofNat_le.mpr h))
                                        clear c51
                                        by_cases c58 : 0 ≤ x95_3
                                        · rw [if_pos c58] at H
                                          have c58b0 : decide (0 ≤ x95_3) = true := decide_eq_true c58
                                          clear c58
                                          by_cases c59 : x95_3 < (t360.length : Int)
                                          · rw [if_pos c59] at H
                                            have c59b0 : decide (x95_3 < (t360.length : Int)) = true := decide_eq_true c59
                                            clear c59
                                            by_cases c60 : ((rdOf ByteArray.empty t370 x95_3).size : Int) = (rd t360 x95_3)
                                            · rw [if_pos c60] at H
                                              have c60b0 : (((rdOf ByteArray.empty t370 x95_3).size : Int) == (rd t360 x95_3)) = true := beq_iff_eq.mpr c60
                                              have c60b1 : (((rdOf ByteArray.empty t370 x95_3).size : Int) != (rd t360 x95_3)) = false := bne_eq_false_iff_eq.mpr c60
                                              clear c60
                                              have H' := Aside0.mk H
                                              clear H
                                              have p385 : 0 ≤ (x102_4 : Int) := of_decide_eq_true (by first | (with_reducible assumption) | assumption)
                                              have q385 : x102_4 < (t370.length : Int) := of_decide_eq_true (by first | (with_reducible assumption) | assumption)
                                              obtain ⟨ad385, e385, hx385_0⟩ := Kd.at_string (Kd.R_reads' HO_100.out).2.2 x102_4 p385 q385
                                              obtain rfl : ad384 = ad385 := (by injection e385)
                                              replace p385 := eq_true p385
                                              replace q385 := eq_true q385
                                              have p389 : 0 ≤ (x95_3 : Int) := of_decide_eq_true (by first | (with_reducible assumption) | assumption)
                                              have q389 : x95_3 < (t360.length : Int) := of_decide_eq_true (by first | (with_reducible assumption) | assumption)
                                              obtain ⟨ad389, e389, hx389_0⟩ := Kd.at_int (Kd.R_reads' HO_5.out).2.2 x95_3 p389 q389
                                              cases e389
                                              replace p389 := eq_true p389
                                              replace q389 := eq_true q389
                                              go_wp2
                                              go_roundg k4
                                              case measure => have := HJ9.out; have := HJ24.out; have := HK3.out; have := HK4.out; omega
                                              case rel => exact ⟨(wrap64 (x102_4 + 1)), (by first | rfl | (simp; done) | (simp [*]; done)), H', ⟨by have := HJ9.out; have := HJ24.out; have := HK3.out; have := HK4.out; omega⟩, ⟨by (with_reducible repeat (first | apply Kd.R_alloc | apply Kd.R_drewN | apply Kd.R_drew)); exact HO_5.out⟩, ⟨by (with_reducible repeat (first | apply Kd.R_alloc | apply Kd.R_drewN | apply Kd.R_drew)); exact HO_11.out⟩, ⟨by (with_reducible repeat (first | apply Kd.R_alloc | apply Kd.R_drewN | apply Kd.R_drew)); exact HO_93.out⟩, ⟨by (with_reducible repeat (first | apply Kd.R_alloc | apply Kd.R_drewN | apply Kd.R_drew)); exact HO_100.out⟩, ⟨by repeat (first | (with_reducible first | exact HB.out | apply below_alloc | apply pw_below_drewN | apply below_drew1) | exact HB.out)⟩⟩
                                            · rw [if_neg c60] at H
                                              have c60b0 : (((rdOf ByteArray.empty t370 x95_3).size : Int) == (rd t360 x95_3)) = false := beq_eq_false_iff_ne.mpr c60
                                              have c60b1 : (((rdOf ByteArray.empty t370 x95_3).size : Int) != (rd t360 x95_3)) = true := bne_iff_ne.mpr c60
                                              obtain rfl := Option.some.inj H
                                              have p385 : 0 ≤ (x102_4 : Int) := of_decide_eq_true (by first | (with_reducible assumption) | assumption)
                                              have q385 : x102_4 < (t370.length : Int) := of_decide_eq_true (by first | (with_reducible assumption) | assumption)
                                              obtain ⟨ad385, e385, hx385_0⟩ := Kd.at_string (Kd.R_reads' HO_100.out).2.2 x102_4 p385 q385
                                              obtain rfl : ad384 = ad385 := (by injection e385)
                                              replace p385 := eq_true p385
                                              replace q385 := eq_true q385
                                              have p389 : 0 ≤ (x95_3 : Int) := of_decide_eq_true (by first | (with_reducible assumption) | assumption)
                                              have q389 : x95_3 < (t360.length : Int) := of_decide_eq_true (by first | (with_reducible assumption) | assumption)
                                              obtain ⟨ad389, e389, hx389_0⟩ := Kd.at_int (Kd.R_reads' HO_5.out).2.2 x95_3 p389 q389
                                              cases e389
                                              replace p389 := eq_true p389
                                              replace q389 := eq_true q389
                                              go_wp2
                                              go_ret
                                              exact ⟨by first | rfl | (simp [errW_none, errW_some] <;> rfl) | (simp [*, errW_none, errW_some] <;> rfl), by repeat (first | (with_reducible first | exact HB.out | apply below_alloc | apply pw_below_drewN | apply below_drew1) | exact HB.out)⟩
                                          · rw [if_neg c59] at H
                                            exact absurd H (by simp)
                                        · rw [if_neg c58] at H
                                          exact absurd H (by simp)
                                · rw [if_neg c42] at H
                                  exact absurd H (by simp)
                              · rw [if_neg c41] at H
                                exact absurd H (by simp)
                            · rw [if_neg c40] at H
                              have c40b0 : decide (x102_4 < (t370.length : Int)) = false := decide_eq_false c40
                              clear c40
                              have H' := Aside0.mk H
                              clear H
                              go_wp2
                              go_roundg k4
                              case measure => have := HJ9.out; have := HJ24.out; have := HK3.out; have := HK4.out; omega
                              case rel => exact ⟨(wrap64 (x95_3 + 1)), (by first | rfl | (simp; done) | (simp [*]; done)), H', ⟨by have := HJ9.out; have := HJ24.out; have := HK3.out; have := HK4.out; omega⟩, ⟨by (with_reducible repeat (first | apply Kd.R_alloc | apply Kd.R_drewN | apply Kd.R_drew)); exact HO_5.out⟩, ⟨by (with_reducible repeat (first | apply Kd.R_alloc | apply Kd.R_drewN | apply Kd.R_drew)); exact HO_11.out⟩, ⟨by (with_reducible repeat (first | apply Kd.R_alloc | apply Kd.R_drewN | apply Kd.R_drew)); exact HO_93.out⟩, ⟨by repeat (first | (with_reducible first | exact HB.out | apply below_alloc | apply pw_below_drewN | apply below_drew1) | exact HB.out)⟩⟩
                      · rw [if_neg c39] at H
                        exact absurd H (by simp)
                    · rw [if_neg c38] at H
                      exact absurd H (by simp)
                  · rw [if_neg c37] at H
                    have c37b0 : decide (x95_3 < (t370.length : Int)) = false := decide_eq_false c37
                    clear c37
                    replace H := Option.bind_eq_some_iff.mp H
                    obtain ⟨⟨t390, t391⟩, A610, H⟩ := H
                    replace H : ((impl_DecodeBy.f k3 t390 t391).bind fun bt394 => ((spec_DecodeBy.f k3 t390 t391).bind fun bt398 => (if (bt394.2 != bt398.2) = true then (laws_FnCoded.j4 k3 t390 t391 bt394.1 bt394.2 true) else ((laws_sameInts.f k3 bt394.1 bt398.1).bind fun t402 => (laws_FnCoded.j4 k3 t390 t391 bt394.1 bt394.2 (!t402)))))) = some r := H
                    have A61 := Aside0.mk A610
                    clear A610
                    replace H := Option.bind_eq_some_iff.mp H
                    obtain ⟨⟨t394, t395⟩, A620, H⟩ := H
                    replace H : ((spec_DecodeBy.f k3 t390 t391).bind fun bt398 => (if (t395 != bt398.2) = true then (laws_FnCoded.j4 k3 t390 t391 t394 t395 true) else ((laws_sameInts.f k3 t394 bt398.1).bind fun t402 => (laws_FnCoded.j4 k3 t390 t391 t394 t395 (!t402))))) = some r := H
                    have A62 := Aside0.mk A620
                    clear A620
                    replace H := Option.bind_eq_some_iff.mp H
                    obtain ⟨⟨t398, t399⟩, A630, H⟩ := H
                    replace H : (if (t395 != t399) = true then (laws_FnCoded.j4 k3 t390 t391 t394 t395 true) else ((laws_sameInts.f k3 t394 t398).bind fun t402 => (laws_FnCoded.j4 k3 t390 t391 t394 t395 (!t402)))) = some r := H
                    have A63 := Aside0.mk A630
                    clear A630
                    have HC64 := Aside0.mk H
                    clear H
                    go_upto_region 27 with (first | ((with_reducible refine gate_callee (f := 13) rfl ?_); refine goesL_ (some 142) rfl rfl Tryd.func13 (by kernel_rfl) rfl #[.slice A1 l1.length c1] rfl (by (try simp only [List.map_toArray, List.map_cons, List.map_nil]); first | done | rfl | (simp only [List.length_drop, List.length_take]; rfl)) ?_; (with_reducible refine (spec_DrawDecodeBy.calls k3 _ _ l1 t390 t391 _ ?side1 ?side2 A61.out).mono ?_); (case side1 => repeat (first | exact (Kd.C_below HR1.out HB.out) | (with_reducible refine Kd.C_alloc ?_ _) | (with_reducible refine Kd.C_drewN ?_ _) | (with_reducible refine Kd.C_drew ?_))); (case side2 => exact HC1.out); rintro e w65 ⟨v392, rfl, ho0, hb⟩; refine ⟨_, rfl, ?_⟩; have n0_ := Aside0.mk (Kd.R_elder' (by (with_reducible repeat (first | apply Kd.R_alloc | apply Kd.R_drewN | apply Kd.R_drew)); exact HO_5.out) (Kd.R_base ho0) hb); have n1_ := Aside0.mk (Kd.R_below (by (with_reducible repeat (first | apply Kd.R_alloc | apply Kd.R_drewN | apply Kd.R_drew)); exact HO_11.out) hb); have n2_ := Aside0.mk (Kd.R_below (by (with_reducible repeat (first | apply Kd.R_alloc | apply Kd.R_drewN | apply Kd.R_drew)); exact HO_93.out) hb); have n3_ := Aside0.mk (Kd.R_lower (Kd.R_new' ho0 (Kd.R_lt (by (with_reducible repeat (first | apply Kd.R_alloc | apply Kd.R_drewN | apply Kd.R_drew)); exact HO_5.out))) (below_size (by repeat (first | (with_reducible first | exact HB.out | apply below_alloc | apply pw_below_drewN | apply below_drew1) | exact HB.out)))); have n4_ := Aside0.mk (below_step (by repeat (first | (with_reducible first | exact HB.out | apply below_alloc | apply pw_below_drewN | apply below_drew1) | exact HB.out)) hb); clear HO_5; clear HO_11; clear HO_93; clear HB; have HO_5 := n0_; have HO_11 := n1_; have HO_93 := n2_; have HO393 := n3_; have HB := n4_; clear n0_ n1_ n2_ n3_ n4_; (try clear hb); (try clear hb2); (try clear hk); (try clear hi); (try clear ho0); obtain ⟨Ao66, co66, eo66⟩ := Kd.R_slice HO393.out; subst eo66) | ((with_reducible refine gate_callee (f := 11) rfl ?_); refine goesL_ (some 148) rfl rfl Tryd.func11 (by kernel_rfl) rfl #[.slice Ao66 t390.length co66, .string t391] rfl (by (try simp only [List.map_toArray, List.map_cons, List.map_nil]); first | done | rfl | (simp only [List.length_drop, List.length_take]; rfl)) ?_; (with_reducible refine (impl_DecodeBy.calls k3 _ _ t390 t391 t394 t395 _ ?side1 ?side2 A62.out).mono ?_); (case side1 => repeat (first | exact (Kd.R_reads' HO393.out).2.2 | (with_reducible refine Kd.C_alloc ?_ _) | (with_reducible refine Kd.C_drewN ?_ _) | (with_reducible refine Kd.C_drew ?_))); (case side2 => exact (Kd.R_reads' HO393.out).2.1); rintro e w67 ⟨v396, rfl, ho0, hb⟩; refine ⟨_, rfl, ?_⟩; have n0_ := Aside0.mk (Kd.R_elder' (by (with_reducible repeat (first | apply Kd.R_alloc | apply Kd.R_drewN | apply Kd.R_drew)); exact HO_5.out) (Kd.R_base ho0) hb); have n1_ := Aside0.mk (Kd.R_below (by (with_reducible repeat (first | apply Kd.R_alloc | apply Kd.R_drewN | apply Kd.R_drew)); exact HO_11.out) hb); have n2_ := Aside0.mk (Kd.R_below (by (with_reducible repeat (first | apply Kd.R_alloc | apply Kd.R_drewN | apply Kd.R_drew)); exact HO_93.out) hb); have n3_ := Aside0.mk (Kd.R_elder' (by (with_reducible repeat (first | apply Kd.R_alloc | apply Kd.R_drewN | apply Kd.R_drew)); exact HO393.out) (Kd.R_base ho0) hb); have n4_ := Aside0.mk (Kd.R_lower (Kd.R_new' (Kd.R_new' ho0 (Kd.R_lt (by (with_reducible repeat (first | apply Kd.R_alloc | apply Kd.R_drewN | apply Kd.R_drew)); exact HO_5.out))) (Kd.R_lt (by (with_reducible repeat (first | apply Kd.R_alloc | apply Kd.R_drewN | apply Kd.R_drew)); exact HO393.out))) (below_size (by repeat (first | (with_reducible first | exact HB.out | apply below_alloc | apply pw_below_drewN | apply below_drew1) | exact HB.out)))); have n5_ := Aside0.mk (below_step (by repeat (first | (with_reducible first | exact HB.out | apply below_alloc | apply pw_below_drewN | apply below_drew1) | exact HB.out)) hb); clear HO_5; clear HO_11; clear HO_93; clear HO393; clear HB; have HO_5 := n0_; have HO_11 := n1_; have HO_93 := n2_; have HO393 := n3_; have HO397 := n4_; have HB := n5_; clear n0_ n1_ n2_ n3_ n4_ n5_; (try clear hb); (try clear hb2); (try clear hk); (try clear hi); (try clear ho0)) | ((with_reducible refine gate_callee (f := 14) rfl ?_); refine goesL_ (some 154) rfl rfl Tryd.func14 (by kernel_rfl) rfl #[.slice Ao66 t390.length co66, .string t391] rfl (by (try simp only [List.map_toArray, List.map_cons, List.map_nil]); first | done | rfl | (simp only [List.length_drop, List.length_take]; rfl)) ?_; (with_reducible refine (spec_DecodeBy.calls k3 _ _ t390 t391 t398 t399 _ ?side1 ?side2 A63.out).mono ?_); (case side1 => repeat (first | exact (Kd.R_reads' HO393.out).2.2 | (with_reducible refine Kd.C_alloc ?_ _) | (with_reducible refine Kd.C_drewN ?_ _) | (with_reducible refine Kd.C_drew ?_))); (case side2 => exact (Kd.R_reads' HO393.out).2.1); rintro e w68 ⟨v400, rfl, ho0, hb⟩; refine ⟨_, rfl, ?_⟩; have n0_ := Aside0.mk (Kd.R_elder' (by (with_reducible repeat (first | apply Kd.R_alloc | apply Kd.R_drewN | apply Kd.R_drew)); exact HO_5.out) (Kd.R_base ho0) hb); have n1_ := Aside0.mk (Kd.R_below (by (with_reducible repeat (first | apply Kd.R_alloc | apply Kd.R_drewN | apply Kd.R_drew)); exact HO_11.out) hb); have n2_ := Aside0.mk (Kd.R_below (by (with_reducible repeat (first | apply Kd.R_alloc | apply Kd.R_drewN | apply Kd.R_drew)); exact HO_93.out) hb); have n3_ := Aside0.mk (Kd.R_elder' (by (with_reducible repeat (first | apply Kd.R_alloc | apply Kd.R_drewN | apply Kd.R_drew)); exact HO393.out) (Kd.R_base ho0) hb); have n4_ := Aside0.mk (Kd.R_elder' (by (with_reducible repeat (first | apply Kd.R_alloc | apply Kd.R_drewN | apply Kd.R_drew)); exact HO397.out) (Kd.R_base ho0) hb); have n5_ := Aside0.mk (Kd.R_lower (Kd.R_new' (Kd.R_new' (Kd.R_new' ho0 (Kd.R_lt (by (with_reducible repeat (first | apply Kd.R_alloc | apply Kd.R_drewN | apply Kd.R_drew)); exact HO_5.out))) (Kd.R_lt (by (with_reducible repeat (first | apply Kd.R_alloc | apply Kd.R_drewN | apply Kd.R_drew)); exact HO393.out))) (Kd.R_lt (by (with_reducible repeat (first | apply Kd.R_alloc | apply Kd.R_drewN | apply Kd.R_drew)); exact HO397.out))) (below_size (by repeat (first | (with_reducible first | exact HB.out | apply below_alloc | apply pw_below_drewN | apply below_drew1) | exact HB.out)))); have n6_ := Aside0.mk (below_step (by repeat (first | (with_reducible first | exact HB.out | apply below_alloc | apply pw_below_drewN | apply below_drew1) | exact HB.out)) hb); clear HO_5; clear HO_11; clear HO_93; clear HO393; clear HO397; clear HB; have HO_5 := n0_; have HO_11 := n1_; have HO_93 := n2_; have HO393 := n3_; have HO397 := n4_; have HO401 := n5_; have HB := n6_; clear n0_ n1_ n2_ n3_ n4_ n5_ n6_; (try clear hb); (try clear hb2); (try clear hk); (try clear hi); (try clear ho0)))
                    (try simp only [Act.put, List.setIfInBounds_toArray, List.set_cons_zero, List.set_cons_succ])
                    go_cut [165] (fun v165 wc => ∃ (kq : Nat) (x165_63 : Bool), v165 = .bool x165_63 ∧ Aside0 (laws_FnCoded.j4 kq t390 t391 t394 t395 x165_63 = some r) ∧ Aside0 (kq ≤ k3) ∧ Aside0 (Kd.R (Kd.int .i64) 3 wc w.heap.size (fun k_ => some k_ ≠ (v396 : Value).ownBlock) (.slice Ao66 t390.length co66) t390) ∧ Aside0 (Kd.R (Kd.int .i64) 3 wc w.heap.size (fun k_ => some k_ ≠ ((.slice Ao66 t390.length co66) : Value).ownBlock) v396 t394) ∧ Aside0 (Below w.heap.size w wc))
                    case first =>
                      have H := HC64.out
                      clear HC64
                      by_cases c69 : (t395 != t399) = true
                      · rw [if_pos c69] at H
                        have c69b0 : (t395 != t399) = true := c69
                        (try (have c69b1 : decide (t395 = t399) = false := by simpa using c69))
                        (try (have c69b2 : (t395 == t399) = false := by simpa using c69))
                        (try (have c69b3 : ¬ (t395 = t399) := by simpa using c69))
                        clear c69
                        (first | rw [c69b0] | (simp only [i64_w, i32_w]; rw [c69b0]) | skip)
                        have H' := Aside0.mk H
                        clear H
                        go_wp2
                        go_meet
                        case rel => exact ⟨_, (true), (by first | rfl | (simp; done) | (simp [*]; done)), H', ⟨by have := HJ9.out; have := HJ24.out; have := HK3.out; first | omega | exact Nat.le_refl _⟩, ⟨by (with_reducible repeat (first | apply Kd.R_alloc | apply Kd.R_drewN | apply Kd.R_drew)); exact Kd.R_mono HO393.out (fun _ hk => hk.1.2)⟩, ⟨by (with_reducible repeat (first | apply Kd.R_alloc | apply Kd.R_drewN | apply Kd.R_drew)); exact Kd.R_mono HO397.out (fun _ hk => hk.1.2)⟩, ⟨by repeat (first | (with_reducible first | exact HB.out | apply below_alloc | apply pw_below_drewN | apply below_drew1) | exact HB.out)⟩⟩
                      · rw [if_neg c69] at H
                        have c69b0 : (t395 != t399) = false := by simpa using c69
                        (try (have c69b1 : decide (t395 = t399) = true := by simpa using c69))
                        (try (have c69b2 : (t395 == t399) = true := by simpa using c69))
                        clear c69
                        (first | rw [c69b0] | (simp only [i64_w, i32_w]; rw [c69b0]) | skip)
                        replace H := Option.bind_eq_some_iff.mp H
                        obtain ⟨t402, A700, H⟩ := H
                        replace H : (laws_FnCoded.j4 k3 t390 t391 t394 t395 (!t402)) = some r := H
                        have A70 := Aside0.mk A700
                        clear A700
                        have H' := Aside0.mk H
                        clear H
                        obtain ⟨Ao71, co71, eo71⟩ := Kd.R_slice HO397.out
                        subst eo71
                        obtain ⟨Ao72, co72, eo72⟩ := Kd.R_slice HO401.out
                        subst eo72
                        go_wp2_with (first | (go_at_call 12; (with_reducible refine (laws_sameInts.calls k3 _ _ t394 _ _ t398 t402 _ ?side1 ?side2 ?side3 ?side4 A70.out).mono ?_); (case side1 => repeat (first | exact (Kd.R_reads' HO397.out).2.2 | (with_reducible refine Kd.C_alloc ?_ _) | (with_reducible refine Kd.C_drewN ?_ _) | (with_reducible refine Kd.C_drew ?_))); (case side2 => exact (Kd.R_reads' HO397.out).2.1); (case side3 => repeat (first | exact (Kd.R_reads' HO401.out).2.2 | (with_reducible refine Kd.C_alloc ?_ _) | (with_reducible refine Kd.C_drewN ?_ _) | (with_reducible refine Kd.C_drew ?_))); (case side4 => exact (Kd.R_reads' HO401.out).2.1); rintro e w' ⟨rfl, ⟨nd, rfl⟩⟩))
                        go_meet
                        case rel => exact ⟨_, (!t402), (by first | rfl | (simp; done) | (simp [*]; done)), H', ⟨by have := HJ9.out; have := HJ24.out; have := HK3.out; first | omega | exact Nat.le_refl _⟩, ⟨by (with_reducible repeat (first | apply Kd.R_alloc | apply Kd.R_drewN | apply Kd.R_drew)); exact Kd.R_mono HO393.out (fun _ hk => hk.1.2)⟩, ⟨by (with_reducible repeat (first | apply Kd.R_alloc | apply Kd.R_drewN | apply Kd.R_drew)); exact Kd.R_mono HO397.out (fun _ hk => hk.1.2)⟩, ⟨by repeat (first | (with_reducible first | exact HB.out | apply below_alloc | apply pw_below_drewN | apply below_drew1) | exact HB.out)⟩⟩
                    case rest =>
                      clear HC64
                      try clear c1
                      try clear c2
                      try clear p2
                      try clear c3
                      try clear p3
                      try clear q3
                      try clear hx3
                      try clear c4
                      try clear c5
                      try clear c6
                      try clear p6
                      try clear c7
                      try clear c8
                      try clear c9
                      try clear c11
                      try clear c13
                      try clear c14
                      try clear c18
                      try clear c18b0
                      try clear c18b1
                      try clear c18b2
                      try clear c19
                      try clear c19b0
                      try clear c19b1
                      try clear c20
                      try clear c20b0
                      try clear c20b1
                      try clear c20b2
                      try clear c24
                      try clear c26
                      try clear c28
                      try clear c30
                      try clear c37
                      try clear c37b0
                      try clear c38
                      try clear c38b0
                      try clear p38
                      try clear q38
                      try clear hx38
                      try clear c39
                      try clear c39b0
                      try clear c40
                      try clear c40b0
                      try clear c41
                      try clear c41b0
                      try clear c42
                      try clear c42b0
                      try clear c43
                      try clear c43b0
                      try clear c43b1
                      try clear c44
                      try clear c44b0
                      try clear c45
                      try clear c45b0
                      try clear c46
                      try clear c46b0
                      try clear c46b1
                      try clear c47
                      try clear c47b0
                      try clear c47b1
                      try clear c48
                      try clear c48b0
                      try clear c49
                      try clear c49b0
                      try clear c50
                      try clear c50b0
                      try clear c50b1
                      try clear c51
                      try clear c51b0
                      try clear c51b1
                      try clear c52
                      try clear c52b0
                      try clear c52b1
                      try clear c53
                      try clear c53b0
                      try clear c53b1
                      try clear c54
                      try clear c54b0
                      try clear c54b1
                      try clear c55
                      try clear c55b0
                      try clear c56
                      try clear c56b0
                      try clear c57
                      try clear c57b0
                      try clear c57b1
                      try clear c58
                      try clear c58b0
                      try clear c59
                      try clear c59b0
                      try clear c60
                      try clear c60b0
                      try clear c60b1
                      try clear p64
                      try clear c69
                      try clear c69b0
                      try clear c69b1
                      try clear c69b2
                      try clear hx384_0
                      try clear hx385_0
                      try clear hx386_0
                      try clear hx387_0
                      try clear hx388_0
                      try clear hx389_0
                      try clear p2
                      try clear p3
                      try clear p38
                      try clear p384
                      try clear p385
                      try clear p386
                      try clear p387
                      try clear p388
                      try clear p389
                      try clear q3
                      try clear q38
                      try clear q384
                      try clear q385
                      try clear q386
                      try clear q387
                      try clear q388
                      try clear q389
                      obtain ⟨kq, x165_63, rfl, HA, HJ63, HO_21, HO_23, HB⟩ := hcut
                      cases kq with
                      | zero => exact absurd HA.out (by simp [laws_FnCoded.j4])
                      | succ kj63 =>
                        have H := HA.out
                        clear HA
                        simp only [laws_FnCoded.j4] at H
                        by_cases c73 : x165_63 = true
                        · subst c73
                          have H1 : (some false) = some r := by rw [if_pos rfl] at H; exact H
                          clear H
                          have H := H1
                          clear H1
                          obtain rfl := Option.some.inj H
                          go_wp2
                          go_ret
                          exact ⟨by first | rfl | (simp [errW_none, errW_some] <;> rfl) | (simp [*, errW_none, errW_some] <;> rfl), by repeat (first | (with_reducible first | exact HB.out | apply below_alloc | apply pw_below_drewN | apply below_drew1) | exact HB.out)⟩
                        · replace c73 := Bool.eq_false_iff.mpr c73
                          subst c73
                          have H1 : (if t395 = true then ((impl_EncodeBy.f kj63 t390 t394).bind fun bt403 => (if bt403.2 = true then (some (bt403.1.toList == t391.toList)) else (some false))) else (some true)) = some r := by rw [if_neg (show ¬ (false = true) by decide)] at H; exact H
                          clear H
                          have H := H1
                          clear H1
                          by_cases c74 : t395 = true
                          · subst c74
                            have H1 : ((impl_EncodeBy.f kj63 t390 t394).bind fun bt403 => (if bt403.2 = true then (some (bt403.1.toList == t391.toList)) else (some false))) = some r := by rw [if_pos rfl] at H; exact H
                            clear H
                            have H := H1
                            clear H1
                            replace H := Option.bind_eq_some_iff.mp H
                            obtain ⟨⟨t403, t404⟩, A750, H⟩ := H
                            replace H : (if t404 = true then (some (t403.toList == t391.toList)) else (some false)) = some r := H
                            have A75 := Aside0.mk A750
                            clear A750
                            by_cases c76 : t404 = true
                            · subst c76
                              have H1 : (some (t403.toList == t391.toList)) = some r := by rw [if_pos rfl] at H; exact H
                              clear H
                              have H := H1
                              clear H1
                              obtain rfl := Option.some.inj H
                              obtain ⟨Ao77, co77, eo77⟩ := Kd.R_slice HO_23.out
                              subst eo77
                              go_wp2_with (first | ((with_reducible refine gate_callee (f := 6) rfl ?_); refine goesL_ (some 170) rfl rfl Tryd.func6 (by kernel_rfl) rfl #[.slice Ao66 t390.length co66, .slice Ao77 t394.length co77] rfl (by (try simp only [List.map_toArray, List.map_cons, List.map_nil]); first | done | rfl | (simp only [List.length_drop, List.length_take]; rfl)) ?_; (with_reducible refine (impl_EncodeBy.calls kj63 _ _ t390 _ _ t394 t403 true _ ?side1 ?side2 ?side3 ?side4 A75.out).mono ?_); (case side1 => repeat (first | exact (Kd.R_reads' HO_21.out).2.2 | (with_reducible refine Kd.C_alloc ?_ _) | (with_reducible refine Kd.C_drewN ?_ _) | (with_reducible refine Kd.C_drew ?_))); (case side2 => exact (Kd.R_reads' HO_21.out).2.1); (case side3 => repeat (first | exact (Kd.R_reads' HO_23.out).2.2 | (with_reducible refine Kd.C_alloc ?_ _) | (with_reducible refine Kd.C_drewN ?_ _) | (with_reducible refine Kd.C_drew ?_))); (case side4 => exact (Kd.R_reads' HO_23.out).2.1); rintro e w78 ⟨rfl, hb⟩; refine ⟨_, rfl, ?_⟩; have n0_ := Aside0.mk (Kd.R_below (by (with_reducible repeat (first | apply Kd.R_alloc | apply Kd.R_drewN | apply Kd.R_drew)); exact HO_21.out) hb); have n1_ := Aside0.mk (Kd.R_below (by (with_reducible repeat (first | apply Kd.R_alloc | apply Kd.R_drewN | apply Kd.R_drew)); exact HO_23.out) hb); have n2_ := Aside0.mk (below_step (by repeat (first | (with_reducible first | exact HB.out | apply below_alloc | apply pw_below_drewN | apply below_drew1) | exact HB.out)) hb); clear HO_21; clear HO_23; clear HB; have HO_21 := n0_; have HO_23 := n1_; have HB := n2_; clear n0_ n1_ n2_; (try clear hb); (try clear hb2); (try clear hk); (try clear hi)))
                              go_ret
                              exact ⟨by first | rfl | (simp [errW_none, errW_some] <;> rfl) | (simp [*, errW_none, errW_some] <;> rfl), by repeat (first | (with_reducible first | exact HB.out | apply below_alloc | apply pw_below_drewN | apply below_drew1) | exact HB.out)⟩
                            · replace c76 := Bool.eq_false_iff.mpr c76
                              subst c76
                              have H1 : (some false) = some r := by rw [if_neg (show ¬ (false = true) by decide)] at H; exact H
                              clear H
                              have H := H1
                              clear H1
                              obtain rfl := Option.some.inj H
                              obtain ⟨Ao79, co79, eo79⟩ := Kd.R_slice HO_23.out
                              subst eo79
                              go_wp2_with (first | ((with_reducible refine gate_callee (f := 6) rfl ?_); refine goesL_ (some 170) rfl rfl Tryd.func6 (by kernel_rfl) rfl #[.slice Ao66 t390.length co66, .slice Ao79 t394.length co79] rfl (by (try simp only [List.map_toArray, List.map_cons, List.map_nil]); first | done | rfl | (simp only [List.length_drop, List.length_take]; rfl)) ?_; (with_reducible refine (impl_EncodeBy.calls kj63 _ _ t390 _ _ t394 t403 false _ ?side1 ?side2 ?side3 ?side4 A75.out).mono ?_); (case side1 => repeat (first | exact (Kd.R_reads' HO_21.out).2.2 | (with_reducible refine Kd.C_alloc ?_ _) | (with_reducible refine Kd.C_drewN ?_ _) | (with_reducible refine Kd.C_drew ?_))); (case side2 => exact (Kd.R_reads' HO_21.out).2.1); (case side3 => repeat (first | exact (Kd.R_reads' HO_23.out).2.2 | (with_reducible refine Kd.C_alloc ?_ _) | (with_reducible refine Kd.C_drewN ?_ _) | (with_reducible refine Kd.C_drew ?_))); (case side4 => exact (Kd.R_reads' HO_23.out).2.1); rintro e w80 ⟨rfl, hb⟩; refine ⟨_, rfl, ?_⟩; have n0_ := Aside0.mk (Kd.R_below (by (with_reducible repeat (first | apply Kd.R_alloc | apply Kd.R_drewN | apply Kd.R_drew)); exact HO_21.out) hb); have n1_ := Aside0.mk (Kd.R_below (by (with_reducible repeat (first | apply Kd.R_alloc | apply Kd.R_drewN | apply Kd.R_drew)); exact HO_23.out) hb); have n2_ := Aside0.mk (below_step (by repeat (first | (with_reducible first | exact HB.out | apply below_alloc | apply pw_below_drewN | apply below_drew1) | exact HB.out)) hb); clear HO_21; clear HO_23; clear HB; have HO_21 := n0_; have HO_23 := n1_; have HB := n2_; clear n0_ n1_ n2_; (try clear hb); (try clear hb2); (try clear hk); (try clear hi)))
                              go_ret
                              exact ⟨by first | rfl | (simp [errW_none, errW_some] <;> rfl) | (simp [*, errW_none, errW_some] <;> rfl), by repeat (first | (with_reducible first | exact HB.out | apply below_alloc | apply pw_below_drewN | apply below_drew1) | exact HB.out)⟩
                          · replace c74 := Bool.eq_false_iff.mpr c74
                            subst c74
                            have H1 : (some true) = some r := by rw [if_neg (show ¬ (false = true) by decide)] at H; exact H
                            clear H
                            have H := H1
                            clear H1
                            obtain rfl := Option.some.inj H
                            go_wp2
                            go_ret
                            exact ⟨by first | rfl | (simp [errW_none, errW_some] <;> rfl) | (simp [*, errW_none, errW_some] <;> rfl), by repeat (first | (with_reducible first | exact HB.out | apply below_alloc | apply pw_below_drewN | apply below_drew1) | exact HB.out)⟩

/-- THE ONE PURE STATEMENT of laws_FnCoded: yours. -/
def laws_FnCoded.Pure : Prop := ∀ (l0 : List Int) (l1 : List Int), l0.length ≤ maxLen → l0.length * 1 ≤ 140737488351232 → (∀ x ∈ l0, (Lit.int .u8 x).wf = true) → l1.length ≤ maxLen → l1.length * 1 ≤ 140737488351232 → (∀ x ∈ l1, (Lit.int .u8 x).wf = true) → ∃ k, laws_FnCoded.f k l0 l1 = some true
theorem laws_FnCoded.walk (P : laws_FnCoded.Pure) (a0 : Option Addr) (len0 cap0 : Nat) (z0 : List Int) (a1 : Option Addr) (len1 cap1 : Nat) (z1 : List Int) (w : World) (w0 : (a0 = none ∧ len0 = 0 ∧ cap0 = 0 ∧ z0 = []) ∨ ∃ x, a0 = some x ∧ len0 ≤ cap0 ∧ cap0 ≤ maxLen ∧ z0.length = cap0 ∧ (∀ i, i < z0.length → w.cell? (x.add i) = some (.int .u8 (z0.getD i 0))) ∧ ∀ n ∈ z0, (Lit.int .u8 n).wf = true) (y0 : len0 * 1 ≤ 140737488351232) (w1 : (a1 = none ∧ len1 = 0 ∧ cap1 = 0 ∧ z1 = []) ∨ ∃ x, a1 = some x ∧ len1 ≤ cap1 ∧ cap1 ≤ maxLen ∧ z1.length = cap1 ∧ (∀ i, i < z1.length → w.cell? (x.add i) = some (.int .u8 (z1.getD i 0))) ∧ ∀ n ∈ z1, (Lit.int .u8 n).wf = true) (y1 : len1 * 1 ≤ 140737488351232) :
    Calls Tryd.prog 3 #[.slice a0 len0 cap0, .slice a1 len1 cap1] w fun e w' => e = .returned (.bool true) ∧ Below w.heap.size w w' := by
  obtain ⟨l0, rfl, hr0, hm0, hw0, hc0⟩ := ReadsInt.ofRowC w0
  obtain ⟨l1, rfl, hr1, hm1, hw1, hc1⟩ := ReadsInt.ofRowC w1
  obtain ⟨k, h⟩ := P l0 l1 hm0 y0 hw0 hm1 y1 hw1
  refine (laws_FnCoded.calls k _ _ l0 _ _ l1 true w (Kd.C_of_reads (d := (0 : Int)) (h1 := fun _ => rfl) hr0) hc0 (Kd.C_of_reads (d := (0 : Int)) (h1 := fun _ => rfl) hr1) hc1 h).mono ?_
  rintro e w' ⟨rfl, hd⟩
  exact ⟨rfl, hd⟩

end Go.Proofs.YtmgkflkfoccgkabDoor.QFnCoded
