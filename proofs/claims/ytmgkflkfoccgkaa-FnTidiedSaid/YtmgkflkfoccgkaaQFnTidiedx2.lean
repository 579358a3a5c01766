-- Written by this session's own program (wip/x/xprint.py, over the kit's printer); Lean checks it.
import Derived.Test.YtmgkflkfoccgkaaQFnTidiedx0
import Derived.Test.YtmgkflkfoccgkaaQFnTidiedx1
namespace Go.Proofs.Ytmgkflkfoccgkaa.QFnTidied
open Go.RowKit Go.Proofs.YtmgkflkfoccgkaaW.PrintWords Go.Proofs.YtmgkflkfoccgkaaW.PrintLast Go.Proofs.YtmgkflkfoccgkaaW.PrintMore
attribute [local go_sem] max2_int min2_int max_two min_two max_three min_three max_four min_four   -- for this text's walks alone
set_option linter.unusedVariables false
set_option linter.unusedSimpArgs false

/-! ### impl_areElements: function 79 -/
def impl_areElements.f (a0:Int) (l1:List Int):Option (Bool):=(impl_areElements_1_any.f l1 a0).bind fun t122=>(some (!t122))
set_option maxHeartbeats 8000000 in
set_option maxRecDepth 100000 in
theorem impl_areElements.calls (a0:Int) (A1:Option Addr) (c1:Nat) (l1:List Int) (r:Bool) (w:World) (hr1:Kd.C (Kd.int .i64) w A1 l1.length l1) (hc1:l1.length ≤ c1) (h:impl_areElements.f a0 l1 = some r) :
  Calls Try.prog 79 #[.int .i64 a0,.slice A1 l1.length c1] w fun e w'=>e = .returned (.bool r) ∧ Below w.heap.size w w':=by
 have HR1:=Aside0.mk hr1
 have HC1:=Aside0.mk hc1
 clear hr1 hc1
 have HB:=Aside0.mk (Below.refl w.heap.size w)
 have H:((impl_areElements_1_any.f l1 a0).bind fun t122=>(some (!t122))) = some r:=h
 clear h
 replace H:=bI H;obtain ⟨t122,A3,H⟩:=H
 obtain rfl:=Option.some.inj H
 go_enter Try.func79,Try.ntmps79
 go_wp2_with (first|(refine xB 2 #[.int .i64 a0] 3 ?_;intro gb121 hg w4 hbox hb;have BK121:=Aside0.mk (hbox);have GW121:=gZ w gb121;have GE121:=GW121;replace HB:=bS hb;clear hb hbox hg)|(go_at_call 93;(with_reducible refine (impl_areElements_1_any.calls _ _ l1 a0 gb121 t122 _ ?side1 ?side2 ?side3 A3.out).mono ?_);(case side1=>exact sC HR1);(case side2=>exact HC1.out);(case side3=>(with_reducible repeat (first|refine blk_drewN ?_ _|refine blk_drew ?_|refine blk_alloc ?_ _));exact BK121.out);rintro e w5 ⟨rfl,hb⟩;replace BK121:=bb BK121 hb;replace HB:=bS hb;clear hb))
 go_ret
 exact ⟨Yb,bH⟩

/-! ### impl_isSize: function 95 -/
def impl_isSize.f (a0:Int):Option (Bool):=if a0 ≥ 1 then (some (decide (a0 ≤ 3))) else (some false)
set_option maxHeartbeats 8000000 in
set_option maxRecDepth 100000 in
theorem impl_isSize.calls (a0:Int) (r:Bool) (w:World) (h:impl_isSize.f a0 = some r) :
  Calls Try.prog 95 #[.int .i64 a0] w fun e w'=>e = .returned (.bool r) ∧ Drawn0 w w':=by
 have H:(if a0 ≥ 1 then (some (decide (a0 ≤ 3))) else (some false)) = some r:=h
 clear h
 by_cases c2:a0 ≥ 1
 ·rw [if_pos c2] at H
  have c2b0:decide (1 ≤ a0) = true:=decide_eq_true c2
  clear c2
  obtain rfl:=Option.some.inj H
  go_enter Try.func95,Try.ntmps95
  go_wp2
  go_ret
  exact ⟨Yd,Yh⟩
 ·rw [if_neg c2] at H
  have c2b0:decide (1 ≤ a0) = false:=decide_eq_false c2
  clear c2
  obtain rfl:=Option.some.inj H
  go_enter Try.func95,Try.ntmps95
  go_wp2
  go_ret
  exact ⟨Yd,Yh⟩

/-! ### impl_entries: function 96 -/
def impl_entries.l0:Nat → Int → Int → Int → Int → Option (Int)
 | 0,_,_,_,_=>none
 | k + 1,x0,x5,x6,x7=>if x7 < x6 then (impl_entries.l0 k x0 (wrap64 (x5 * x0)) x6 (wrap64 (x7 + 1))) else (some x5)
def impl_entries.f (k:Nat) (a0:Int) (a1:Int):Option (Int):=impl_entries.l0 k a0 1 a1 0
theorem impl_entries.mono_l:∀ k,(∀ y0 y1 y2 y3,LeO (impl_entries.l0 k y0 y1 y2 y3) (impl_entries.l0 (k + 1) y0 y1 y2 y3))
 | 0=>fun _ _ _ _ r h=>by simp [impl_entries.l0] at h
 | k + 1=>by
  have ih0:=impl_entries.mono_l k
  ·intro y0 y1 y2 y3
   unfold impl_entries.l0
   exact mO
theorem impl_entries.mono:∀ a0 a1 k,LeO (impl_entries.f k a0 a1) (impl_entries.f (k + 1) a0 a1):=by
 intro a0 a1 k
 have ih0:=impl_entries.mono_l k
 unfold impl_entries.f
 exact mO
set_option maxHeartbeats 8000000 in
set_option maxRecDepth 100000 in
theorem impl_entries.calls (k:Nat) (a0:Int) (a1:Int) (r:Int) (w:World) (h:impl_entries.f k a0 a1 = some r) :
  Calls Try.prog 96 #[.int .i64 a0,.int .i64 a1] w fun e w'=>e = .returned (.int .i64 r) ∧ Drawn0 w w':=by
 have H:(impl_entries.l0 k a0 1 a1 0) = some r:=h
 clear h
 have H':=Aside0.mk H
 clear H
 go_enter Try.func96,Try.ntmps96
 go_wp2
 go_loopg [5,7] k (fun kq v5 v7 w'=>∃ (x5_1:Int) (x7_1:Int),v5 = .int .i64 x5_1 ∧ v7 = .int .i64 x7_1 ∧ Aside0 (impl_entries.l0 kq a0 x5_1 a1 x7_1 = some r) ∧ Aside0 (kq ≤ k) ∧ Drawn0 w w')
 case atStart=>exact ⟨(1),(0),Yd,Yd,H',⟨Nat.le_refl _⟩,Yh⟩
 case round =>
  clear H'
  obtain ⟨x5_1,x7_1,rfl,rfl,HA,HK1,⟨m1,rfl⟩⟩:=hrel
  cases gk with
  | zero=>exact absurd HA.out (by simp [impl_entries.l0])
  | succ k1 =>
   have H:=HA.out
   clear HA
   simp only [impl_entries.l0] at H
   by_cases c3:x7_1 < a1
   ·rw [if_pos c3] at H
    have c3b0:=decide_eq_true c3
    clear c3
    have H':=Aside0.mk H
    clear H
    go_wp2
    go_roundg k1
    case measure=>have:=HK1.out;omega
    case rel=>exact ⟨(wrap64 (x5_1 * a0)),(wrap64 (x7_1 + 1)),Yd,Yd,H',⟨YH⟩,Yh⟩
   ·rw [if_neg c3] at H
    have c3b0:decide (x7_1 < a1) = false:=decide_eq_false c3
    clear c3
    obtain rfl:=Option.some.inj H
    go_wp2
    go_ret
    exact ⟨Yd,Yh⟩

end Go.Proofs.Ytmgkflkfoccgkaa.QFnTidied
