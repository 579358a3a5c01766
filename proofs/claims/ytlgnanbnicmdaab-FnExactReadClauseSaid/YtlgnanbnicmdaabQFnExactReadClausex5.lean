-- Written by this session's own program (wip/x/xprint.py, over the kit's printer); Lean checks it.
import Derived.Test.YtlgnanbnicmdaabQFnExactReadClausex0
import Derived.Test.YtlgnanbnicmdaabQFnExactReadClausex3
import Derived.Test.YtlgnanbnicmdaabQFnExactReadClausex4
namespace Go.Proofs.Ytlgnanbnicmdaab.QFnExactReadClause
open Go.RowKit Go.Proofs.YtlgnanbnicmdaabW.PrintWords Go.Proofs.YtlgnanbnicmdaabW.PrintLast Go.Proofs.YtlgnanbnicmdaabW.PrintMore
attribute [local go_sem] max2_int min2_int max_two min_two max_three min_three max_four min_four   -- for this text's walks alone
set_option linter.unusedVariables false
set_option linter.unusedSimpArgs false

/-! ### spec_l4Read: function 62 -/
mutual
def spec_l4Read.j0:Nat → ByteArray → Bool → List Int → Option ((List (S65)) × Int × Bool)
 | 0,_,_,_=>none
 | k + 1,x1,x24,x158000=>if x24 = true then (some (([]:List (S65)),1,false)) else (spec_l4Read.l0 k x1 ([]:List (S65)) 0 x158000)
def spec_l4Read.l0:Nat → ByteArray → List (S65) → Int → List Int → Option ((List (S65)) × Int × Bool)
 | 0,_,_,_,_=>none
 | k + 1,x1,x7,x8,x158000=>(spec_l1ReadTerm.f k x158000 x1 x8).bind fun bt158=>(if bt158.2.2 = true then (if bt158.2.1 = (x1.size:Int) then (spec_l4Read.j2 k x1 x7 bt158.1 bt158.2.1 true x158000) else (if 0 ≤ bt158.2.1 then (if bt158.2.1 < (x1.size:Int) then (if (bt x1 bt158.2.1) = 61 then (spec_l4Read.j2 k x1 x7 bt158.1 bt158.2.1 false x158000) else (spec_l4Read.j2 k x1 x7 bt158.1 bt158.2.1 ((bt x1 bt158.2.1) != 35) x158000)) else (none)) else (none))) else (spec_l4Read.j2 k x1 x7 bt158.1 bt158.2.1 true x158000))
def spec_l4Read.j2:Nat → ByteArray → List (S65) → List Int → Int → Bool → List Int → Option ((List (S65)) × Int × Bool)
 | 0,_,_,_,_,_,_=>none
 | k + 1,x1,x7,x9,x10,x52,x158000=>if x52 = true then (some (([]:List (S65)),x10,false)) else ((spec_l1ReadTerm.f k x158000 x1 (wrap64 (x10 + 1))).bind fun bt163=>(if bt163.2.2 = true then (if 0 ≤ x10 then (if x10 < (x1.size:Int) then (if x7.length < 2513169434916 then ((some (x7 ++ [(⟨((bt x1 x10) == 61),x9,bt163.1⟩:S65)]:List (S65))).bind fun y168=>(if bt163.2.1 = (x1.size:Int) then (some (y168,bt163.2.1,true)) else (if 0 ≤ bt163.2.1 then (if bt163.2.1 < (x1.size:Int) then (if (bt x1 bt163.2.1) = 124 then (spec_l4Read.l0 k x1 y168 (wrap64 (bt163.2.1 + 1)) x158000) else (some (([]:List (S65)),bt163.2.1,false))) else (none)) else (none)))) else (none)) else (none)) else (none)) else (some (([]:List (S65)),bt163.2.1,false))))
end
def spec_l4Read.f (k:Nat) (l0_0:List Int) (a1:ByteArray):Option ((List (S65)) × Int × Bool):=if a1.toList = ([45]:List UInt8) then (some (([]:List (S65)),1,true)) else (if (a1.size:Int) > 0 then (if 0 < (a1.size:Int) then (spec_l4Read.j0 k a1 ((bt a1 0) == 45) l0_0) else (none)) else (spec_l4Read.j0 k a1 false l0_0))
theorem spec_l4Read.mono_l:∀ k,(∀ y0 y1 y2,LeO (spec_l4Read.j0 k y0 y1 y2) (spec_l4Read.j0 (k + 1) y0 y1 y2)) ∧ (∀ y0 y1 y2 y3,LeO (spec_l4Read.l0 k y0 y1 y2 y3) (spec_l4Read.l0 (k + 1) y0 y1 y2 y3)) ∧ (∀ y0 y1 y2 y3 y4 y5,LeO (spec_l4Read.j2 k y0 y1 y2 y3 y4 y5) (spec_l4Read.j2 (k + 1) y0 y1 y2 y3 y4 y5))
 | 0=>⟨fun _ _ _ r h=>by simp [spec_l4Read.j0] at h,fun _ _ _ _ r h=>by simp [spec_l4Read.l0] at h,fun _ _ _ _ _ _ r h=>by simp [spec_l4Read.j2] at h⟩
 | k + 1=>by
  obtain ⟨ih0,ih1,ih2⟩:=spec_l4Read.mono_l k
  refine ⟨?_,?_,?_⟩
  ·intro y0 y1 y2
   unfold spec_l4Read.j0
   have m0:=@spec_l1ReadTerm.mono
   exact mO
  ·intro y0 y1 y2 y3
   unfold spec_l4Read.l0
   have m0:=@spec_l1ReadTerm.mono
   exact mO
  ·intro y0 y1 y2 y3 y4 y5
   unfold spec_l4Read.j2
   have m0:=@spec_l1ReadTerm.mono
   exact mO
theorem spec_l4Read.mono:∀ a0 a1 k,LeO (spec_l4Read.f k a0 a1) (spec_l4Read.f (k + 1) a0 a1):=by
 intro a0 a1 k
 obtain ⟨ih0,ih1,ih2⟩:=spec_l4Read.mono_l k
 unfold spec_l4Read.f
 have m0:=@spec_l1ReadTerm.mono
 exact mO
set_option maxHeartbeats 8000000 in
set_option maxRecDepth 100000 in
theorem spec_l4Read.calls (k:Nat) (A0_0:Option Addr) (c0_0:Nat) (l0_0:List Int) (a1:ByteArray) (r1:List (S65)) (r2:Int) (r3:Bool) (w:World) (hr0_0:Kd.C (Kd.int .i64) w A0_0 l0_0.length l0_0) (hc0_0:l0_0.length ≤ c0_0) (h:spec_l4Read.f k l0_0 a1 = some (r1,r2,r3)) :
  Calls Try.prog 62 #[.agg #[.slice A0_0 l0_0.length c0_0],.string a1] w fun e w'=>∃ v0_:Value,e = .returned (.tuple #[v0_,.int .i64 r2,.bool r3]) ∧ Kd.S k65 65 w' w.heap.size (fun _=>True) v0_ r1 ∧ Below w.heap.size w w':=by
 have hu30:=Try.underlying30
 have hu65:=Try.underlying65
 have HR0_0:=Aside0.mk hr0_0
 have HC0_0:=Aside0.mk hc0_0
 clear hr0_0 hc0_0
 have HB:=Aside0.mk (Below.refl w.heap.size w)
 have H:(if a1.toList = ([45]:List UInt8) then (some (([]:List (S65)),1,true)) else (if (a1.size:Int) > 0 then (if 0 < (a1.size:Int) then (spec_l4Read.j0 k a1 ((bt a1 0) == 45) l0_0) else (none)) else (spec_l4Read.j0 k a1 false l0_0))) = some (r1,r2,r3):=h
 clear h
 by_cases c3:a1.toList = ([45]:List UInt8)
 ·rw [if_pos c3] at H
  have c3b0:(a1.toList == ([45]:List UInt8)) = true:=beq_iff_eq.mpr c3
  have c3b1:(a1.toList != ([45]:List UInt8)) = false:=bne_eq_false_iff_eq.mpr c3
  clear c3
  simp only [Option.some.injEq,Prod.mk.injEq] at H
  obtain ⟨rfl,rfl,rfl⟩:=H
  go_enter Try.func62,Try.ntmps62
  go_wp2_with (first|((with_reducible refine gate_dst (N:=2) rfl ?_);(try (refine gate_guard (by rfl) ?_;dsimp only));refine box_event ?hg (N:=2) ?hd (cs:=#[.slice A0_0 l0_0.length c0_0]) (t:=30) ?hr ?_;(case hd=>rfl);(case hg=>rfl);(case hr=>first|(go_simp;done)|(go_simp;rfl));intro gb157 hg w4 hbox hb;have BK157:=Aside0.mk (hbox);have GW157:=Aside0.mk ((hZ:w.heap.size ≤ gb157));have GE157:=Aside0.mk ((hZ:w.heap.size ≤ gb157));replace HB:=Aside0.mk (below_step bH hb);clear hb hbox hg))
  go_ret3
  exact ⟨_,by first|rfl|(simp [errW_none,errW_some] <;> rfl)|(simp [*,errW_none,errW_some] <;> rfl),by first|exact Kd.S_nil _ _ _ _ _|exact Kd.N_nil _ _ _ _ _|exact Kd.V_nil _ _ _ _ _|exact Kd.Q_nil _ _ _ _ _|exact Kd.R_nil _ _ _ _ _,bH⟩
 ·rw [if_neg c3] at H
  have c3b0:(a1.toList == ([45]:List UInt8)) = false:=beq_eq_false_iff_ne.mpr c3
  have c3b1:(a1.toList != ([45]:List UInt8)) = true:=bne_iff_ne.mpr c3
  have HC5:=Aside0.mk H
  clear H
  go_enter Try.func62,Try.ntmps62
  go_upto_region 3 with (first|((with_reducible refine gate_dst (N:=2) rfl ?_);(try (refine gate_guard (by rfl) ?_;dsimp only));refine box_event ?hg (N:=2) ?hd (cs:=#[.slice A0_0 l0_0.length c0_0]) (t:=30) ?hr ?_;(case hd=>rfl);(case hg=>rfl);(case hr=>first|(go_simp;done)|(go_simp;rfl));intro gb157 hg w6 hbox hb;have BK157:=Aside0.mk (hbox);have GW157:=Aside0.mk ((hZ:w.heap.size ≤ gb157));have GE157:=Aside0.mk ((hZ:w.heap.size ≤ gb157));replace HB:=Aside0.mk (below_step bH hb);clear hb hbox hg))
  (try simp only [Act.put,List.setIfInBounds_toArray,List.set_cons_zero,List.set_cons_succ])
  go_cut [24] (fun v24 wc=>∃ (kq:Nat) (x24_4:Bool),v24 = .bool x24_4 ∧ Aside0 (spec_l4Read.j0 kq a1 x24_4 l0_0 = some (r1,r2,r3)) ∧ Aside0 (kq ≤ k) ∧ Aside0 (wc.heap[gb157]? = some (.cells #[(.slice A0_0 l0_0.length c0_0)] 30 (0,0))) ∧ Aside0 (Below w.heap.size w wc))
  case first =>
   have H:=HC5.out
   clear HC5
   by_cases c7:(a1.size:Int) > 0
   ·rw [if_pos c7] at H
    have c7b0:decide (0 < (a1.size:Int)) = true:=decide_eq_true c7
    have c7b1:decide (0 < a1.size) = true:=decide_eq_true (by omega)
    clear c7
    (first|rw [c7b0]|(simp only [i64_w,i32_w];rw [c7b0])|skip)
    by_cases c8:0 < (a1.size:Int)
    ·rw [if_pos c8] at H
     have c8b0:=decide_eq_true c8
     have c8b1:decide (0 < a1.size) = true:=decide_eq_true (by omega)
     clear c8
     have H':=Aside0.mk H
     clear H
     have p9:0 ≤ (0:Int):=(by omega)
     have q9:0 < a1.size:=(by have:(0:Int) < (a1.size:Int):=oD;omega)
     have hx9:∀ h:0 < a1.size,((a1[0]'h).toNat:Int) = bt a1 0:=bt_at a1 0
     clear p9
     have qi9:(0 < (a1.size:Int)) = True:=eq_true (oD)
     replace q9:=eq_true q9
     go_wp2
     go_meet
     case rel=>exact ⟨_,(((bt a1 0) == 45)),Yd,H',⟨by first|omega|exact Nat.le_refl _⟩,⟨by (with_reducible repeat (first|refine blk_drewN ?_ _|refine blk_drew ?_|refine blk_alloc ?_ _));exact BK157.out⟩,⟨bH⟩⟩
    ·rw [if_neg c8] at H
     exact absurd H (by simp)
   ·rw [if_neg c7] at H
    have c7b0:decide (0 < (a1.size:Int)) = false:=decide_eq_false c7
    have c7b1:decide (0 < a1.size) = false:=decide_eq_false (by omega)
    clear c7
    (first|rw [c7b0]|(simp only [i64_w,i32_w];rw [c7b0])|skip)
    have H':=Aside0.mk H
    clear H
    go_wp2
    go_meet
    case rel=>exact ⟨_,(false),Yd,H',⟨by first|omega|exact Nat.le_refl _⟩,⟨by (with_reducible repeat (first|refine blk_drewN ?_ _|refine blk_drew ?_|refine blk_alloc ?_ _));exact BK157.out⟩,⟨bH⟩⟩
  case rest =>
   clear HC5
   try clear p2
   try clear c3
   try clear c3b0
   try clear c3b1
   try clear c6
   try clear c7
   try clear c7b0
   try clear c7b1
   try clear c8
   try clear c8b0
   try clear c8b1
   try clear p9
   try clear q9
   try clear hx9
   try clear qi9
   try clear p9
   try clear q9
   obtain ⟨kq,x24_4,rfl,HA,HJ4,BK157,HB⟩:=hcut
   cases kq with
   | zero=>exact absurd HA.out (by simp [spec_l4Read.j0])
   | succ kj4 =>
    have H:=HA.out
    clear HA
    simp only [spec_l4Read.j0] at H
    by_cases c10:x24_4 = true
    ·subst c10
     have H1:(some (([]:List (S65)),1,false)) = some (r1,r2,r3):=by rw [if_pos rfl] at H;exact H
     clear H
     have H:=H1
     clear H1
     simp only [Option.some.injEq,Prod.mk.injEq] at H
     obtain ⟨rfl,rfl,rfl⟩:=H
     go_wp2
     go_ret3
     exact ⟨_,by first|rfl|(simp [errW_none,errW_some] <;> rfl)|(simp [*,errW_none,errW_some] <;> rfl),by first|exact Kd.S_nil _ _ _ _ _|exact Kd.N_nil _ _ _ _ _|exact Kd.V_nil _ _ _ _ _|exact Kd.Q_nil _ _ _ _ _|exact Kd.R_nil _ _ _ _ _,bH⟩
    ·replace c10:=Bool.eq_false_iff.mpr c10
     subst c10
     have H1:(spec_l4Read.l0 kj4 a1 ([]:List (S65)) 0 l0_0) = some (r1,r2,r3):=by rw [if_neg (show ¬ (false = true) by decide)] at H;exact H
     clear H
     have H:=H1
     clear H1
     have H':=Aside0.mk H
     clear H
     go_wp2
     go_loopg [7,8] kj4 (fun kq v7 v8 w'=>∃ (x7_2:List (S65)) (x8_2:Int),v8 = .int .i64 x8_2 ∧ Aside0 (spec_l4Read.l0 kq a1 x7_2 x8_2 l0_0 = some (r1,r2,r3)) ∧ Aside0 (kq ≤ kj4) ∧ Aside0 (Kd.S k65 65 w' w.heap.size (fun _=>True) v7 x7_2) ∧ Aside0 (w'.heap[gb157]? = some (.cells #[(.slice A0_0 l0_0.length c0_0)] 30 (0,0))) ∧ Aside0 (Below w.heap.size w w'))
     case atStart=>exact ⟨(([]:List (S65))),(0),Yd,H',⟨Nat.le_refl _⟩,⟨by first|exact Kd.S_nil _ _ _ _ _|exact Kd.N_nil _ _ _ _ _|exact Kd.V_nil _ _ _ _ _|exact Kd.Q_nil _ _ _ _ _|exact Kd.R_nil _ _ _ _ _⟩,⟨by (with_reducible repeat (first|refine blk_drewN ?_ _|refine blk_drew ?_|refine blk_alloc ?_ _));exact BK157.out⟩,⟨bH⟩⟩
     case round =>
      clear H'
      try clear c1
      try clear p2
      try clear c3
      try clear c3b0
      try clear c3b1
      try clear c6
      try clear c7
      try clear c7b0
      try clear c7b1
      try clear c8
      try clear c8b0
      try clear c8b1
      try clear p9
      try clear q9
      try clear hx9
      try clear qi9
      try clear c10
      try clear p2
      try clear p9
      try clear q9
      obtain ⟨x7_2,x8_2,rfl,HA,HK2,HO_7,BK157,HB⟩:=hrel
      cases gk with
      | zero=>exact absurd HA.out (by simp [spec_l4Read.l0])
      | succ k2 =>
       have H:=HA.out
       clear HA
       simp only [spec_l4Read.l0] at H
       replace H:=Option.bind_eq_some_iff.mp H
       obtain ⟨⟨t158,t161,t162⟩,A110,H⟩:=H
       replace H:(if t162 = true then (if t161 = (a1.size:Int) then (spec_l4Read.j2 k2 a1 x7_2 t158 t161 true l0_0) else (if 0 ≤ t161 then (if t161 < (a1.size:Int) then (if (bt a1 t161) = 61 then (spec_l4Read.j2 k2 a1 x7_2 t158 t161 false l0_0) else (spec_l4Read.j2 k2 a1 x7_2 t158 t161 ((bt a1 t161) != 35) l0_0)) else (none)) else (none))) else (spec_l4Read.j2 k2 a1 x7_2 t158 t161 true l0_0)) = some (r1,r2,r3):=H
       have A11:=Aside0.mk A110
       clear A110
       have HC12:=Aside0.mk H
       clear H
       have hcz13_0:wr.cell? ⟨gb157,0,none⟩ = some (.slice A0_0 l0_0.length c0_0):=(blk_cell BK157.out 0).trans rfl
       have hfz13_0:=blk_frozen BK157.out 0
       go_upto_region 8 with (first|((with_reducible refine gate_callee (f:=95) rfl ?_);refine goesL_ (some 29) rfl rfl Try.func95 (by kernel_rfl) rfl #[.agg #[.slice A0_0 l0_0.length c0_0],.string a1,.int .i64 x8_2] rfl Ya ?_;(with_reducible refine (spec_l1ReadTerm.calls k2 _ _ l0_0 a1 x8_2 t158 t161 t162 _ ?side1 ?side2 A11.out).mono ?_);(case side1=>exact sC HR0_0);(case side2=>exact HC0_0.out);rintro e w14 ⟨v159,rfl,ho0,hb⟩;refine ⟨_,rfl,?_⟩;replace HO_7:=Aside0.mk (Kd.S_elder' (rS HO_7) (Kd.R_base ho0) hb);have HO160:=Aside0.mk (Kd.R_lower ho0 (below_size bH));replace BK157:=Aside0.mk (blk_below (bB BK157) hb);replace HB:=Aside0.mk (below_step bH hb);(try clear hb);(try clear hb2);(try clear hk);(try clear hi);(try clear ho0)))
       (try simp only [Act.put,List.setIfInBounds_toArray,List.set_cons_zero,List.set_cons_succ])
       go_cut [52] (fun v52 wc=>∃ (kq:Nat) (x52_11:Bool),v52 = .bool x52_11 ∧ Aside0 (spec_l4Read.j2 kq a1 x7_2 t158 t161 x52_11 l0_0 = some (r1,r2,r3)) ∧ Aside0 (kq ≤ k2) ∧ Aside0 (Kd.S k65 65 wc w.heap.size (fun k_=>some k_ ≠ (v159:Value).ownBlock) u7 x7_2) ∧ Aside0 (Kd.R (Kd.int .i64) 3 wc w.heap.size (fun _=>True) v159 t158) ∧ Aside0 (wc.heap[gb157]? = some (.cells #[(.slice A0_0 l0_0.length c0_0)] 30 (0,0))) ∧ Aside0 (Below w.heap.size w wc))
       case first =>
        have H:=HC12.out
        clear HC12
        by_cases c15:t162 = true
        ·subst c15
         have H1:(if t161 = (a1.size:Int) then (spec_l4Read.j2 k2 a1 x7_2 t158 t161 true l0_0) else (if 0 ≤ t161 then (if t161 < (a1.size:Int) then (if (bt a1 t161) = 61 then (spec_l4Read.j2 k2 a1 x7_2 t158 t161 false l0_0) else (spec_l4Read.j2 k2 a1 x7_2 t158 t161 ((bt a1 t161) != 35) l0_0)) else (none)) else (none))) = some (r1,r2,r3):=by rw [if_pos rfl] at H;exact H
         clear H
         have H:=H1
         clear H1
         by_cases c16:t161 = (a1.size:Int)
         ·rw [if_pos c16] at H
          have c16b0:(t161 == (a1.size:Int)) = true:=beq_iff_eq.mpr c16
          have c16b1:(t161 != (a1.size:Int)) = false:=bne_eq_false_iff_eq.mpr c16
          clear c16
          (first|rw [c16b0]|(simp only [i64_w,i32_w];rw [c16b0])|skip)
          have H':=Aside0.mk H
          clear H
          go_wp2
          go_meet
          case rel=>exact ⟨_,(true),Yd,H',⟨by have:=HJ4.out;have:=HK2.out;first|omega|exact Nat.le_refl _⟩,⟨by (with_reducible repeat (first|apply Kd.S_alloc|apply Kd.S_drewN|apply Kd.S_drew));exact Kd.S_mono HO_7.out (fun _ hk=>hk.2)⟩,⟨rR HO160⟩,⟨by (with_reducible repeat (first|refine blk_drewN ?_ _|refine blk_drew ?_|refine blk_alloc ?_ _));exact BK157.out⟩,⟨bH⟩⟩
         ·rw [if_neg c16] at H
          have c16b0:(t161 == (a1.size:Int)) = false:=beq_eq_false_iff_ne.mpr c16
          have c16b1:(t161 != (a1.size:Int)) = true:=bne_iff_ne.mpr c16
          (first|rw [c16b0]|(simp only [i64_w,i32_w];rw [c16b0])|skip)
          by_cases c17:0 ≤ t161
          ·rw [if_pos c17] at H
           have c17b0:=decide_eq_true c17
           clear c17
           by_cases c18:t161 < (a1.size:Int)
           ·rw [if_pos c18] at H
            have c18b0:=decide_eq_true c18
            clear c18
            by_cases c20:(bt a1 t161) = 61
            ·rw [if_pos c20] at H
             have c20b0:((bt a1 t161) == 61) = true:=beq_iff_eq.mpr c20
             have c20b1:((bt a1 t161) != 61) = false:=bne_eq_false_iff_eq.mpr c20
             clear c20
             have H':=Aside0.mk H
             clear H
             have p19:0 ≤ (t161:Int):=oD
             have q19:t161 < (a1.size:Int):=oD
             have hx19:=bt_at a1 t161
             replace p19:=eq_true p19
             replace q19:=eq_true q19
             go_wp2
             go_meet
             case rel=>exact ⟨_,(false),Yd,H',⟨by have:=HJ4.out;have:=HK2.out;first|omega|exact Nat.le_refl _⟩,⟨by (with_reducible repeat (first|apply Kd.S_alloc|apply Kd.S_drewN|apply Kd.S_drew));exact Kd.S_mono HO_7.out (fun _ hk=>hk.2)⟩,⟨rR HO160⟩,⟨by (with_reducible repeat (first|refine blk_drewN ?_ _|refine blk_drew ?_|refine blk_alloc ?_ _));exact BK157.out⟩,⟨bH⟩⟩
            ·rw [if_neg c20] at H
             have c20b0:((bt a1 t161) == 61) = false:=beq_eq_false_iff_ne.mpr c20
             have c20b1:((bt a1 t161) != 61) = true:=bne_iff_ne.mpr c20
             have H':=Aside0.mk H
             clear H
             have p19:0 ≤ (t161:Int):=oD
             have q19:t161 < (a1.size:Int):=oD
             have hx19:=bt_at a1 t161
             replace p19:=eq_true p19
             replace q19:=eq_true q19
             have p21:0 ≤ (t161:Int):=oD
             have q21:t161 < (a1.size:Int):=oD
             have hx21:=bt_at a1 t161
             replace p21:=eq_true p21
             replace q21:=eq_true q21
             go_wp2
             go_meet
             case rel=>exact ⟨_,(((bt a1 t161) != 35)),Yd,H',⟨by have:=HJ4.out;have:=HK2.out;first|omega|exact Nat.le_refl _⟩,⟨by (with_reducible repeat (first|apply Kd.S_alloc|apply Kd.S_drewN|apply Kd.S_drew));exact Kd.S_mono HO_7.out (fun _ hk=>hk.2)⟩,⟨rR HO160⟩,⟨by (with_reducible repeat (first|refine blk_drewN ?_ _|refine blk_drew ?_|refine blk_alloc ?_ _));exact BK157.out⟩,⟨bH⟩⟩
           ·rw [if_neg c18] at H
            exact absurd H (by simp)
          ·rw [if_neg c17] at H
           exact absurd H (by simp)
        ·replace c15:=Bool.eq_false_iff.mpr c15
         subst c15
         have H1:(spec_l4Read.j2 k2 a1 x7_2 t158 t161 true l0_0) = some (r1,r2,r3):=by rw [if_neg (show ¬ (false = true) by decide)] at H;exact H
         clear H
         have H:=H1
         clear H1
         have H':=Aside0.mk H
         clear H
         go_wp2
         go_meet
         case rel=>exact ⟨_,(true),Yd,H',⟨by have:=HJ4.out;have:=HK2.out;first|omega|exact Nat.le_refl _⟩,⟨by (with_reducible repeat (first|apply Kd.S_alloc|apply Kd.S_drewN|apply Kd.S_drew));exact Kd.S_mono HO_7.out (fun _ hk=>hk.2)⟩,⟨rR HO160⟩,⟨by (with_reducible repeat (first|refine blk_drewN ?_ _|refine blk_drew ?_|refine blk_alloc ?_ _));exact BK157.out⟩,⟨bH⟩⟩
       case rest =>
        clear HC12
        try clear c1
        try clear p1
        try clear q1
        try clear hx1
        try clear c2
        try clear p2
        try clear q2
        try clear hx2
        try clear c3
        try clear c3b0
        try clear c3b1
        try clear c6
        try clear c7
        try clear c7b0
        try clear c7b1
        try clear c8
        try clear c8b0
        try clear c8b1
        try clear c9
        try clear p9
        try clear q9
        try clear hx9
        try clear qi9
        try clear c10
        try clear c15
        try clear c16
        try clear c16b0
        try clear c16b1
        try clear c17
        try clear c17b0
        try clear c18
        try clear c18b0
        try clear p19
        try clear q19
        try clear hx19
        try clear c20
        try clear c20b0
        try clear c20b1
        try clear p21
        try clear q21
        try clear hx21
        try clear hcz13_0
        try clear hfz13_0
        try clear p19
        try clear p2
        try clear p21
        try clear p9
        try clear q19
        try clear q21
        try clear q9
        obtain ⟨kq,x52_11,rfl,HA,HJ11,HO_7,HO_9,BK157,HB⟩:=hcut
        cases kq with
        | zero=>exact absurd HA.out (by simp [spec_l4Read.j2])
        | succ kj11 =>
         have H:=HA.out
         clear HA
         simp only [spec_l4Read.j2] at H
         by_cases c22:x52_11 = true
         ·subst c22
          have H1:(some (([]:List (S65)),t161,false)) = some (r1,r2,r3):=by rw [if_pos rfl] at H;exact H
          clear H
          have H:=H1
          clear H1
          simp only [Option.some.injEq,Prod.mk.injEq] at H
          obtain ⟨rfl,rfl,rfl⟩:=H
          go_wp2
          go_ret3
          exact ⟨_,by first|rfl|(simp [errW_none,errW_some] <;> rfl)|(simp [*,errW_none,errW_some] <;> rfl),by first|exact Kd.S_nil _ _ _ _ _|exact Kd.N_nil _ _ _ _ _|exact Kd.V_nil _ _ _ _ _|exact Kd.Q_nil _ _ _ _ _|exact Kd.R_nil _ _ _ _ _,bH⟩
         ·replace c22:=Bool.eq_false_iff.mpr c22
          subst c22
          have H1:((spec_l1ReadTerm.f kj11 l0_0 a1 (wrap64 (t161 + 1))).bind fun bt163=>(if bt163.2.2 = true then (if 0 ≤ t161 then (if t161 < (a1.size:Int) then (if x7_2.length < 2513169434916 then ((some (x7_2 ++ [(⟨((bt a1 t161) == 61),t158,bt163.1⟩:S65)]:List (S65))).bind fun y168=>(if bt163.2.1 = (a1.size:Int) then (some (y168,bt163.2.1,true)) else (if 0 ≤ bt163.2.1 then (if bt163.2.1 < (a1.size:Int) then (if (bt a1 bt163.2.1) = 124 then (spec_l4Read.l0 kj11 a1 y168 (wrap64 (bt163.2.1 + 1)) l0_0) else (some (([]:List (S65)),bt163.2.1,false))) else (none)) else (none)))) else (none)) else (none)) else (none)) else (some (([]:List (S65)),bt163.2.1,false)))) = some (r1,r2,r3):=by rw [if_neg (show ¬ (false = true) by decide)] at H;exact H
          clear H
          have H:=H1
          clear H1
          replace H:=Option.bind_eq_some_iff.mp H
          obtain ⟨⟨t163,t166,t167⟩,A230,H⟩:=H
          replace H:(if t167 = true then (if 0 ≤ t161 then (if t161 < (a1.size:Int) then (if x7_2.length < 2513169434916 then ((some (x7_2 ++ [(⟨((bt a1 t161) == 61),t158,t163⟩:S65)]:List (S65))).bind fun y168=>(if t166 = (a1.size:Int) then (some (y168,t166,true)) else (if 0 ≤ t166 then (if t166 < (a1.size:Int) then (if (bt a1 t166) = 124 then (spec_l4Read.l0 kj11 a1 y168 (wrap64 (t166 + 1)) l0_0) else (some (([]:List (S65)),t166,false))) else (none)) else (none)))) else (none)) else (none)) else (none)) else (some (([]:List (S65)),t166,false))) = some (r1,r2,r3):=H
          have A23:=Aside0.mk A230
          clear A230
          by_cases c24:t167 = true
          ·subst c24
           have H1:(if 0 ≤ t161 then (if t161 < (a1.size:Int) then (if x7_2.length < 2513169434916 then ((some (x7_2 ++ [(⟨((bt a1 t161) == 61),t158,t163⟩:S65)]:List (S65))).bind fun y168=>(if t166 = (a1.size:Int) then (some (y168,t166,true)) else (if 0 ≤ t166 then (if t166 < (a1.size:Int) then (if (bt a1 t166) = 124 then (spec_l4Read.l0 kj11 a1 y168 (wrap64 (t166 + 1)) l0_0) else (some (([]:List (S65)),t166,false))) else (none)) else (none)))) else (none)) else (none)) else (none)) = some (r1,r2,r3):=by rw [if_pos rfl] at H;exact H
           clear H
           have H:=H1
           clear H1
           by_cases c25:0 ≤ t161
           ·rw [if_pos c25] at H
            have c25b0:=decide_eq_true c25
            clear c25
            by_cases c26:t161 < (a1.size:Int)
            ·rw [if_pos c26] at H
             have c26b0:=decide_eq_true c26
             clear c26
             by_cases c28:x7_2.length < 2513169434916
             ·rw [if_pos c28] at H
              have LMc28:=Aside0.mk c28
              clear c28
              obtain ⟨y168,hy168⟩:∃ y_:List (S65),y_ = (x7_2 ++ [(⟨((bt a1 t161) == 61),t158,t163⟩:S65)]):=⟨_,rfl⟩
              replace H:(if t166 = (a1.size:Int) then (some (y168,t166,true)) else (if 0 ≤ t166 then (if t166 < (a1.size:Int) then (if (bt a1 t166) = 124 then (spec_l4Read.l0 kj11 a1 y168 (wrap64 (t166 + 1)) l0_0) else (some (([]:List (S65)),t166,false))) else (none)) else (none))) = some (r1,r2,r3):=by first|(rw [hy168];with_reducible exact H)|(have H2_:=(Option.bind_some _ _).symm.trans H;rw [hy168];with_reducible exact H2_)|(have H2_:=(Option.bind_some _ _).symm.trans H;with_reducible exact H2_)|with_reducible exact H|(rw [hy168];exact H)|exact H
              have Ny168:=Aside0.mk hy168
              clear hy168
              by_cases c29:t166 = (a1.size:Int)
              ·rw [if_pos c29] at H
               have c29b0:(t166 == (a1.size:Int)) = true:=beq_iff_eq.mpr c29
               have c29b1:(t166 != (a1.size:Int)) = false:=bne_eq_false_iff_eq.mpr c29
               clear c29
               simp only [Option.some.injEq,Prod.mk.injEq] at H
               obtain ⟨rfl,rfl,rfl⟩:=H
               have hcz30_0:wc.cell? ⟨gb157,0,none⟩ = some (.slice A0_0 l0_0.length c0_0):=(blk_cell BK157.out 0).trans rfl
               have hfz30_0:=blk_frozen BK157.out 0
               go_wp2_with (first|((with_reducible refine gate_callee (f:=95) rfl ?_);refine goesL_ (some 59) rfl rfl Try.func95 (by kernel_rfl) rfl #[.agg #[.slice A0_0 l0_0.length c0_0],.string a1,.int .i64 (wrap64 (t161 + 1))] rfl Ya ?_;(with_reducible refine (spec_l1ReadTerm.calls kj11 _ _ l0_0 a1 (wrap64 (t161 + 1)) t163 t166 true _ ?side1 ?side2 A23.out).mono ?_);(case side1=>exact sC HR0_0);(case side2=>exact HC0_0.out);rintro e w31 ⟨v164,rfl,ho0,hb⟩;refine ⟨_,rfl,?_⟩;replace HO_7:=Aside0.mk (Kd.S_elder' (rS HO_7) (Kd.R_base ho0) hb);have HO165:=Aside0.mk (Kd.R_lower (Kd.R_new' ho0 (Kd.R_lt (rR HO_9))) (below_size bH));replace HO_9:=Aside0.mk (Kd.R_elder' (rR HO_9) (Kd.R_base ho0) hb);replace BK157:=Aside0.mk (blk_below (bB BK157) hb);replace HB:=Aside0.mk (below_step bH hb);(try clear hb);(try clear hb2);(try clear hk);(try clear hi);(try clear ho0);have p27:0 ≤ (t161:Int):=oD;have q27:t161 < (a1.size:Int):=oD;have hx27:=bt_at a1 t161;replace p27:=eq_true p27;replace q27:=eq_true q27;obtain ⟨Ao32,co32,eo32⟩:=Kd.R_slice HO165.out;subst eo32;obtain ⟨Ao33,co33,eo33⟩:=Kd.R_slice HO_9.out;subst eo33)|((with_reducible refine gate_builtin (b:=.append) (xs:=#[.tmp 66,.tmp 74]) rfl ?_);(try (refine gate_guard (by rfl) ?_;dsimp only));at_builtin;refine Kd.S_append k65 (w0:=w) w.heap.size rfl (.tmp 66) (.tmp 74) 33 65 (.agg #[(.bool false),(.slice none 0 0),(.slice none 0 0)]) 56 rfl Try.underlying33 info65 rfl (by decide) (by first|decide|omega) u7 x7_2 (⟨((bt a1 t161) == 61),t158,t163⟩:S65) [.bool ((bt a1 t161) == 61),.slice Ao33 t158.length co33,.slice Ao32 t163.length co32] (fun _=>True) (fun k_=>some k_ = (.slice Ao33 t158.length co33:Value).ownBlock ∨ some k_ = (.slice Ao32 t163.length co32:Value).ownBlock) rfl rfl ?aP (fun k_ hk_=>hk_.elim (fun h_=>((Kd.R_mono (ok':=fun k_=>((fun _=>True)) k_ ∧ some k_ ≠ (u7:Value).ownBlock) (Kd.R_apart' (HO_9.out) (Kd.S_typed HO_7.out) (by decide)) (fun k_ hk=>⟨trivial,hk.2⟩))).1 k_ h_.symm) (fun h_=>((Kd.R_mono (ok':=fun k_=>((fun _=>True)) k_ ∧ some k_ ≠ (u7:Value).ownBlock) (Kd.R_apart' (HO165.out) (Kd.S_typed HO_7.out) (by decide)) (fun k_ hk=>⟨trivial,hk.2⟩))).1 k_ h_.symm)) ?aF ?aO ?aB ?aS ?aL ?_;(case aP=>exact k65_mkM _ _ _ (⟨((bt a1 t161) == 61),t158,t163⟩:S65) (Kd.R_mono (Kd.R_tight rfl (Kd.R_mono (ok':=fun k_=>((fun _=>True)) k_ ∧ some k_ ≠ (u7:Value).ownBlock) (Kd.R_apart' (HO_9.out) (Kd.S_typed HO_7.out) (by decide)) (fun k_ hk=>⟨trivial,hk.2⟩))) (fun _ h_=>Or.inl h_)) (Kd.R_mono (Kd.R_tight rfl (Kd.R_mono (ok':=fun k_=>((fun _=>True)) k_ ∧ some k_ ≠ (u7:Value).ownBlock) (Kd.R_apart' (HO165.out) (Kd.S_typed HO_7.out) (by decide)) (fun k_ hk=>⟨trivial,hk.2⟩))) (fun _ h_=>Or.inr (h_))));(case aB=>exact bH);(case aF=>exact (fun _ _=>trivial));(case aO=>exact Yj);(case aS=>exact (below_size bH));(case aL=>have:=LMc28.out;omega);intro v169 w34 ho hb hg hat;rw [← Ny168.out] at ho;have n0_:=Aside0.mk (blk_grown (bB BK157) hg (Kd.S_ne HO_7.out BK157.out (by decide)));have n1_:=Aside0.mk (hb);have n2_:=Aside0.mk (ho);clear BK157;clear HB;clear HO_7;clear HO165;clear HO_9;have BK157:=n0_;have HB:=n1_;have HO170:=n2_;clear n0_ n1_ n2_;clear ho hb hg hat))
               go_ret3
               exact ⟨_,by first|rfl|(simp [errW_none,errW_some] <;> rfl)|(simp [*,errW_none,errW_some] <;> rfl),rS HO170,bH⟩
              ·rw [if_neg c29] at H
               have c29b0:(t166 == (a1.size:Int)) = false:=beq_eq_false_iff_ne.mpr c29
               have c29b1:(t166 != (a1.size:Int)) = true:=bne_iff_ne.mpr c29
               by_cases c35:0 ≤ t166
               ·rw [if_pos c35] at H
                have c35b0:=decide_eq_true c35
                clear c35
                by_cases c36:t166 < (a1.size:Int)
                ·rw [if_pos c36] at H
                 have c36b0:=decide_eq_true c36
                 clear c36
                 by_cases c38:(bt a1 t166) = 124
                 ·rw [if_pos c38] at H
                  have c38b0:((bt a1 t166) == 124) = true:=beq_iff_eq.mpr c38
                  have c38b1:((bt a1 t166) != 124) = false:=bne_eq_false_iff_eq.mpr c38
                  clear c38
                  have H':=Aside0.mk H
                  clear H
                  have hcz39_0:wc.cell? ⟨gb157,0,none⟩ = some (.slice A0_0 l0_0.length c0_0):=(blk_cell BK157.out 0).trans rfl
                  have hfz39_0:=blk_frozen BK157.out 0
                  go_wp2_with (first|((with_reducible refine gate_callee (f:=95) rfl ?_);refine goesL_ (some 59) rfl rfl Try.func95 (by kernel_rfl) rfl #[.agg #[.slice A0_0 l0_0.length c0_0],.string a1,.int .i64 (wrap64 (t161 + 1))] rfl Ya ?_;(with_reducible refine (spec_l1ReadTerm.calls kj11 _ _ l0_0 a1 (wrap64 (t161 + 1)) t163 t166 true _ ?side1 ?side2 A23.out).mono ?_);(case side1=>exact sC HR0_0);(case side2=>exact HC0_0.out);rintro e w40 ⟨v164,rfl,ho0,hb⟩;refine ⟨_,rfl,?_⟩;replace HO_7:=Aside0.mk (Kd.S_elder' (rS HO_7) (Kd.R_base ho0) hb);have HO165:=Aside0.mk (Kd.R_lower (Kd.R_new' ho0 (Kd.R_lt (rR HO_9))) (below_size bH));replace HO_9:=Aside0.mk (Kd.R_elder' (rR HO_9) (Kd.R_base ho0) hb);replace BK157:=Aside0.mk (blk_below (bB BK157) hb);replace HB:=Aside0.mk (below_step bH hb);(try clear hb);(try clear hb2);(try clear hk);(try clear hi);(try clear ho0);have p27:0 ≤ (t161:Int):=oD;have q27:t161 < (a1.size:Int):=oD;have hx27:=bt_at a1 t161;replace p27:=eq_true p27;replace q27:=eq_true q27;obtain ⟨Ao41,co41,eo41⟩:=Kd.R_slice HO165.out;subst eo41;obtain ⟨Ao42,co42,eo42⟩:=Kd.R_slice HO_9.out;subst eo42)|((with_reducible refine gate_builtin (b:=.append) (xs:=#[.tmp 66,.tmp 74]) rfl ?_);(try (refine gate_guard (by rfl) ?_;dsimp only));at_builtin;refine Kd.S_append k65 (w0:=w) w.heap.size rfl (.tmp 66) (.tmp 74) 33 65 (.agg #[(.bool false),(.slice none 0 0),(.slice none 0 0)]) 56 rfl Try.underlying33 info65 rfl (by decide) (by first|decide|omega) u7 x7_2 (⟨((bt a1 t161) == 61),t158,t163⟩:S65) [.bool ((bt a1 t161) == 61),.slice Ao42 t158.length co42,.slice Ao41 t163.length co41] (fun _=>True) (fun k_=>some k_ = (.slice Ao42 t158.length co42:Value).ownBlock ∨ some k_ = (.slice Ao41 t163.length co41:Value).ownBlock) rfl rfl ?aP (fun k_ hk_=>hk_.elim (fun h_=>((Kd.R_mono (ok':=fun k_=>((fun _=>True)) k_ ∧ some k_ ≠ (u7:Value).ownBlock) (Kd.R_apart' (HO_9.out) (Kd.S_typed HO_7.out) (by decide)) (fun k_ hk=>⟨trivial,hk.2⟩))).1 k_ h_.symm) (fun h_=>((Kd.R_mono (ok':=fun k_=>((fun _=>True)) k_ ∧ some k_ ≠ (u7:Value).ownBlock) (Kd.R_apart' (HO165.out) (Kd.S_typed HO_7.out) (by decide)) (fun k_ hk=>⟨trivial,hk.2⟩))).1 k_ h_.symm)) ?aF ?aO ?aB ?aS ?aL ?_;(case aP=>exact k65_mkM _ _ _ (⟨((bt a1 t161) == 61),t158,t163⟩:S65) (Kd.R_mono (Kd.R_tight rfl (Kd.R_mono (ok':=fun k_=>((fun _=>True)) k_ ∧ some k_ ≠ (u7:Value).ownBlock) (Kd.R_apart' (HO_9.out) (Kd.S_typed HO_7.out) (by decide)) (fun k_ hk=>⟨trivial,hk.2⟩))) (fun _ h_=>Or.inl h_)) (Kd.R_mono (Kd.R_tight rfl (Kd.R_mono (ok':=fun k_=>((fun _=>True)) k_ ∧ some k_ ≠ (u7:Value).ownBlock) (Kd.R_apart' (HO165.out) (Kd.S_typed HO_7.out) (by decide)) (fun k_ hk=>⟨trivial,hk.2⟩))) (fun _ h_=>Or.inr (h_))));(case aB=>exact bH);(case aF=>exact (fun _ _=>trivial));(case aO=>exact Yj);(case aS=>exact (below_size bH));(case aL=>have:=LMc28.out;omega);intro v169 w43 ho hb hg hat;rw [← Ny168.out] at ho;have n0_:=Aside0.mk (blk_grown (bB BK157) hg (Kd.S_ne HO_7.out BK157.out (by decide)));have n1_:=Aside0.mk (hb);have n2_:=Aside0.mk (ho);clear BK157;clear HB;clear HO_7;clear HO165;clear HO_9;have BK157:=n0_;have HB:=n1_;have HO170:=n2_;clear n0_ n1_ n2_;clear ho hb hg hat;have p37:0 ≤ (t166:Int):=oD;have q37:t166 < (a1.size:Int):=oD;have hx37:=bt_at a1 t166;replace p37:=eq_true p37;replace q37:=eq_true q37))
                  go_roundg kj11
                  case measure=>have:=HJ4.out;have:=HK2.out;have:=HJ11.out;omega
                  case rel=>exact ⟨(y168),(wrap64 (t166 + 1)),Yd,H',⟨by have:=HJ4.out;have:=HK2.out;have:=HJ11.out;omega⟩,⟨rS HO170⟩,⟨by (with_reducible repeat (first|refine blk_drewN ?_ _|refine blk_drew ?_|refine blk_alloc ?_ _));exact BK157.out⟩,⟨bH⟩⟩
                 ·rw [if_neg c38] at H
                  have c38b0:((bt a1 t166) == 124) = false:=beq_eq_false_iff_ne.mpr c38
                  have c38b1:((bt a1 t166) != 124) = true:=bne_iff_ne.mpr c38
                  simp only [Option.some.injEq,Prod.mk.injEq] at H
                  obtain ⟨rfl,rfl,rfl⟩:=H
                  have hcz44_0:wc.cell? ⟨gb157,0,none⟩ = some (.slice A0_0 l0_0.length c0_0):=(blk_cell BK157.out 0).trans rfl
                  have hfz44_0:=blk_frozen BK157.out 0
                  go_wp2_with (first|((with_reducible refine gate_callee (f:=95) rfl ?_);refine goesL_ (some 59) rfl rfl Try.func95 (by kernel_rfl) rfl #[.agg #[.slice A0_0 l0_0.length c0_0],.string a1,.int .i64 (wrap64 (t161 + 1))] rfl Ya ?_;(with_reducible refine (spec_l1ReadTerm.calls kj11 _ _ l0_0 a1 (wrap64 (t161 + 1)) t163 t166 true _ ?side1 ?side2 A23.out).mono ?_);(case side1=>exact sC HR0_0);(case side2=>exact HC0_0.out);rintro e w45 ⟨v164,rfl,ho0,hb⟩;refine ⟨_,rfl,?_⟩;replace HO_7:=Aside0.mk (Kd.S_elder' (rS HO_7) (Kd.R_base ho0) hb);have HO165:=Aside0.mk (Kd.R_lower (Kd.R_new' ho0 (Kd.R_lt (rR HO_9))) (below_size bH));replace HO_9:=Aside0.mk (Kd.R_elder' (rR HO_9) (Kd.R_base ho0) hb);replace BK157:=Aside0.mk (blk_below (bB BK157) hb);replace HB:=Aside0.mk (below_step bH hb);(try clear hb);(try clear hb2);(try clear hk);(try clear hi);(try clear ho0);have p27:0 ≤ (t161:Int):=oD;have q27:t161 < (a1.size:Int):=oD;have hx27:=bt_at a1 t161;replace p27:=eq_true p27;replace q27:=eq_true q27;obtain ⟨Ao46,co46,eo46⟩:=Kd.R_slice HO165.out;subst eo46;obtain ⟨Ao47,co47,eo47⟩:=Kd.R_slice HO_9.out;subst eo47)|((with_reducible refine gate_builtin (b:=.append) (xs:=#[.tmp 66,.tmp 74]) rfl ?_);(try (refine gate_guard (by rfl) ?_;dsimp only));at_builtin;refine Kd.S_append k65 (w0:=w) w.heap.size rfl (.tmp 66) (.tmp 74) 33 65 (.agg #[(.bool false),(.slice none 0 0),(.slice none 0 0)]) 56 rfl Try.underlying33 info65 rfl (by decide) (by first|decide|omega) u7 x7_2 (⟨((bt a1 t161) == 61),t158,t163⟩:S65) [.bool ((bt a1 t161) == 61),.slice Ao47 t158.length co47,.slice Ao46 t163.length co46] (fun _=>True) (fun k_=>some k_ = (.slice Ao47 t158.length co47:Value).ownBlock ∨ some k_ = (.slice Ao46 t163.length co46:Value).ownBlock) rfl rfl ?aP (fun k_ hk_=>hk_.elim (fun h_=>((Kd.R_mono (ok':=fun k_=>((fun _=>True)) k_ ∧ some k_ ≠ (u7:Value).ownBlock) (Kd.R_apart' (HO_9.out) (Kd.S_typed HO_7.out) (by decide)) (fun k_ hk=>⟨trivial,hk.2⟩))).1 k_ h_.symm) (fun h_=>((Kd.R_mono (ok':=fun k_=>((fun _=>True)) k_ ∧ some k_ ≠ (u7:Value).ownBlock) (Kd.R_apart' (HO165.out) (Kd.S_typed HO_7.out) (by decide)) (fun k_ hk=>⟨trivial,hk.2⟩))).1 k_ h_.symm)) ?aF ?aO ?aB ?aS ?aL ?_;(case aP=>exact k65_mkM _ _ _ (⟨((bt a1 t161) == 61),t158,t163⟩:S65) (Kd.R_mono (Kd.R_tight rfl (Kd.R_mono (ok':=fun k_=>((fun _=>True)) k_ ∧ some k_ ≠ (u7:Value).ownBlock) (Kd.R_apart' (HO_9.out) (Kd.S_typed HO_7.out) (by decide)) (fun k_ hk=>⟨trivial,hk.2⟩))) (fun _ h_=>Or.inl h_)) (Kd.R_mono (Kd.R_tight rfl (Kd.R_mono (ok':=fun k_=>((fun _=>True)) k_ ∧ some k_ ≠ (u7:Value).ownBlock) (Kd.R_apart' (HO165.out) (Kd.S_typed HO_7.out) (by decide)) (fun k_ hk=>⟨trivial,hk.2⟩))) (fun _ h_=>Or.inr (h_))));(case aB=>exact bH);(case aF=>exact (fun _ _=>trivial));(case aO=>exact Yj);(case aS=>exact (below_size bH));(case aL=>have:=LMc28.out;omega);intro v169 w48 ho hb hg hat;rw [← Ny168.out] at ho;have n0_:=Aside0.mk (blk_grown (bB BK157) hg (Kd.S_ne HO_7.out BK157.out (by decide)));have n1_:=Aside0.mk (hb);have n2_:=Aside0.mk (ho);clear BK157;clear HB;clear HO_7;clear HO165;clear HO_9;have BK157:=n0_;have HB:=n1_;have HO170:=n2_;clear n0_ n1_ n2_;clear ho hb hg hat;have p37:0 ≤ (t166:Int):=oD;have q37:t166 < (a1.size:Int):=oD;have hx37:=bt_at a1 t166;replace p37:=eq_true p37;replace q37:=eq_true q37))
                  go_ret3
                  exact ⟨_,by first|rfl|(simp [errW_none,errW_some] <;> rfl)|(simp [*,errW_none,errW_some] <;> rfl),by first|exact Kd.S_nil _ _ _ _ _|exact Kd.N_nil _ _ _ _ _|exact Kd.V_nil _ _ _ _ _|exact Kd.Q_nil _ _ _ _ _|exact Kd.R_nil _ _ _ _ _,bH⟩
                ·rw [if_neg c36] at H
                 exact absurd H (by simp)
               ·rw [if_neg c35] at H
                exact absurd H (by simp)
             ·rw [if_neg c28] at H
              exact absurd H (by simp)
            ·rw [if_neg c26] at H
             exact absurd H (by simp)
           ·rw [if_neg c25] at H
            exact absurd H (by simp)
          ·replace c24:=Bool.eq_false_iff.mpr c24
           subst c24
           have H1:(some (([]:List (S65)),t166,false)) = some (r1,r2,r3):=by rw [if_neg (show ¬ (false = true) by decide)] at H;exact H
           clear H
           have H:=H1
           clear H1
           simp only [Option.some.injEq,Prod.mk.injEq] at H
           obtain ⟨rfl,rfl,rfl⟩:=H
           have hcz49_0:wc.cell? ⟨gb157,0,none⟩ = some (.slice A0_0 l0_0.length c0_0):=(blk_cell BK157.out 0).trans rfl
           have hfz49_0:=blk_frozen BK157.out 0
           go_wp2_with (first|((with_reducible refine gate_callee (f:=95) rfl ?_);refine goesL_ (some 59) rfl rfl Try.func95 (by kernel_rfl) rfl #[.agg #[.slice A0_0 l0_0.length c0_0],.string a1,.int .i64 (wrap64 (t161 + 1))] rfl Ya ?_;(with_reducible refine (spec_l1ReadTerm.calls kj11 _ _ l0_0 a1 (wrap64 (t161 + 1)) t163 t166 false _ ?side1 ?side2 A23.out).mono ?_);(case side1=>exact sC HR0_0);(case side2=>exact HC0_0.out);rintro e w50 ⟨v164,rfl,ho0,hb⟩;refine ⟨_,rfl,?_⟩;replace HO_7:=Aside0.mk (Kd.S_elder' (rS HO_7) (Kd.R_base ho0) hb);have HO165:=Aside0.mk (Kd.R_lower (Kd.R_new' ho0 (Kd.R_lt (rR HO_9))) (below_size bH));replace HO_9:=Aside0.mk (Kd.R_elder' (rR HO_9) (Kd.R_base ho0) hb);replace BK157:=Aside0.mk (blk_below (bB BK157) hb);replace HB:=Aside0.mk (below_step bH hb);(try clear hb);(try clear hb2);(try clear hk);(try clear hi);(try clear ho0)))
           go_ret3
           exact ⟨_,by first|rfl|(simp [errW_none,errW_some] <;> rfl)|(simp [*,errW_none,errW_some] <;> rfl),by first|exact Kd.S_nil _ _ _ _ _|exact Kd.N_nil _ _ _ _ _|exact Kd.V_nil _ _ _ _ _|exact Kd.Q_nil _ _ _ _ _|exact Kd.R_nil _ _ _ _ _,bH⟩

/-! ### spec_l1End: function 102 -/
mutual
def spec_l1End.l0:Nat → List Int → Int → Int → List Int → Option (Int)
 | 0,_,_,_,_=>none
 | k + 1,x1,x2,x7,x172000=>if x7 > 0 then (if x2 ≥ (x1.length:Int) then (spec_l1End.j1 k x1 x2 x7 true x172000) else (if 0 ≤ x2 then (if x2 < (x1.length:Int) then ((spec_l1In.f (rd x1 x2) (-12) (wrap64 ((x172000.length:Int) - 1))).bind fun t173=>(spec_l1End.j1 k x1 x2 x7 (!t173) x172000)) else (none)) else (none))) else (some x2)
def spec_l1End.j1:Nat → List Int → Int → Int → Bool → List Int → Option (Int)
 | 0,_,_,_,_,_=>none
 | k + 1,x1,x2,x7,x25,x172000=>if x25 = true then (some (-1)) else (if 0 ≤ x2 then (if x2 < (x1.length:Int) then (if (rd x1 x2) ≥ 0 then (if 0 ≤ (rd x1 x2) then (if (rd x1 x2) < (x172000.length:Int) then (spec_l1End.l0 k x1 (wrap64 (x2 + 1)) (wrap64 ((wrap64 (x7 - 1)) + (rd x172000 (rd x1 x2)))) x172000) else (none)) else (none)) else (spec_l1End.l0 k x1 (wrap64 (x2 + 1)) (wrap64 (x7 - 1)) x172000)) else (none)) else (none))
end
def spec_l1End.f (k:Nat) (l0_0:List Int) (l1:List Int) (a2:Int):Option (Int):=spec_l1End.l0 k l1 a2 1 l0_0
theorem spec_l1End.mono_l:∀ k,(∀ y0 y1 y2 y3,LeO (spec_l1End.l0 k y0 y1 y2 y3) (spec_l1End.l0 (k + 1) y0 y1 y2 y3)) ∧ (∀ y0 y1 y2 y3 y4,LeO (spec_l1End.j1 k y0 y1 y2 y3 y4) (spec_l1End.j1 (k + 1) y0 y1 y2 y3 y4))
 | 0=>⟨fun _ _ _ _ r h=>by simp [spec_l1End.l0] at h,fun _ _ _ _ _ r h=>by simp [spec_l1End.j1] at h⟩
 | k + 1=>by
  obtain ⟨ih0,ih1⟩:=spec_l1End.mono_l k
  refine ⟨?_,?_⟩
  ·intro y0 y1 y2 y3
   unfold spec_l1End.l0
   exact mO
  ·intro y0 y1 y2 y3 y4
   unfold spec_l1End.j1
   exact mO
theorem spec_l1End.mono:∀ a0 a1 a2 k,LeO (spec_l1End.f k a0 a1 a2) (spec_l1End.f (k + 1) a0 a1 a2):=by
 intro a0 a1 a2 k
 obtain ⟨ih0,ih1⟩:=spec_l1End.mono_l k
 unfold spec_l1End.f
 exact mO
set_option maxHeartbeats 8000000 in
set_option maxRecDepth 100000 in
theorem spec_l1End.calls (k:Nat) (A0_0:Option Addr) (c0_0:Nat) (l0_0:List Int) (A1:Option Addr) (c1:Nat) (l1:List Int) (a2:Int) (r:Int) (w:World) (hr0_0:Kd.C (Kd.int .i64) w A0_0 l0_0.length l0_0) (hc0_0:l0_0.length ≤ c0_0) (hr1:Kd.C (Kd.int .i64) w A1 l1.length l1) (hc1:l1.length ≤ c1) (h:spec_l1End.f k l0_0 l1 a2 = some r) :
  Calls Try.prog 102 #[.agg #[.slice A0_0 l0_0.length c0_0],.slice A1 l1.length c1,.int .i64 a2] w fun e w'=>e = .returned (.int .i64 r) ∧ Below w.heap.size w w':=by
 have hu30:=Try.underlying30
 have HR0_0:=Aside0.mk hr0_0
 have HC0_0:=Aside0.mk hc0_0
 clear hr0_0 hc0_0
 have HR1:=Aside0.mk hr1
 have HC1:=Aside0.mk hc1
 clear hr1 hc1
 have HB:=Aside0.mk (Below.refl w.heap.size w)
 have H:(spec_l1End.l0 k l1 a2 1 l0_0) = some r:=h
 clear h
 have H':=Aside0.mk H
 clear H
 go_enter Try.func102,Try.ntmps102
 go_wp2_with (first|((with_reducible refine gate_dst (N:=3) rfl ?_);(try (refine gate_guard (by rfl) ?_;dsimp only));refine box_event ?hg (N:=3) ?hd (cs:=#[.slice A0_0 l0_0.length c0_0]) (t:=30) ?hr ?_;(case hd=>rfl);(case hg=>rfl);(case hr=>first|(go_simp;done)|(go_simp;rfl));intro gb171 hg w4 hbox hb;have BK171:=Aside0.mk (hbox);have GW171:=Aside0.mk ((hZ:w.heap.size ≤ gb171));have GE171:=Aside0.mk ((hZ:w.heap.size ≤ gb171));replace HB:=Aside0.mk (below_step bH hb);clear hb hbox hg))
 repeat (go_quiet (first|((with_reducible refine gate_dst (N:=3) rfl ?_);(try (refine gate_guard (by rfl) ?_;dsimp only));refine box_event ?hg (N:=3) ?hd (cs:=#[.slice A0_0 l0_0.length c0_0]) (t:=30) ?hr ?_;(case hd=>rfl);(case hg=>rfl);(case hr=>first|(go_simp;done)|(go_simp;rfl));intro gb171 hg w4 hbox hb;have BK171:=Aside0.mk (hbox);have GW171:=Aside0.mk ((hZ:w.heap.size ≤ gb171));have GE171:=Aside0.mk ((hZ:w.heap.size ≤ gb171));replace HB:=Aside0.mk (below_step bH hb);clear hb hbox hg));try go_wp2_with (first|((with_reducible refine gate_dst (N:=3) rfl ?_);(try (refine gate_guard (by rfl) ?_;dsimp only));refine box_event ?hg (N:=3) ?hd (cs:=#[.slice A0_0 l0_0.length c0_0]) (t:=30) ?hr ?_;(case hd=>rfl);(case hg=>rfl);(case hr=>first|(go_simp;done)|(go_simp;rfl));intro gb171 hg w4 hbox hb;have BK171:=Aside0.mk (hbox);have GW171:=Aside0.mk ((hZ:w.heap.size ≤ gb171));have GE171:=Aside0.mk ((hZ:w.heap.size ≤ gb171));replace HB:=Aside0.mk (below_step bH hb);clear hb hbox hg)))
 go_loopg [2,7] k (fun kq v2 v7 w'=>∃ (x2_1:Int) (x7_1:Int),v2 = .int .i64 x2_1 ∧ v7 = .int .i64 x7_1 ∧ Aside0 (spec_l1End.l0 kq l1 x2_1 x7_1 l0_0 = some r) ∧ Aside0 (kq ≤ k) ∧ Aside0 (w'.heap[gb171]? = some (.cells #[(.slice A0_0 l0_0.length c0_0)] 30 (0,0))) ∧ Aside0 (Below w.heap.size w w'))
 case atStart=>exact ⟨(a2),(1),Yd,Yd,H',⟨Nat.le_refl _⟩,⟨by (with_reducible repeat (first|refine blk_drewN ?_ _|refine blk_drew ?_|refine blk_alloc ?_ _));exact BK171.out⟩,⟨bH⟩⟩
 case round =>
  clear H'
  try clear c1
  try clear p2
  obtain ⟨x2_1,x7_1,rfl,rfl,HA,HK1,BK171,HB⟩:=hrel
  cases gk with
  | zero=>exact absurd HA.out (by simp [spec_l1End.l0])
  | succ k1 =>
   have H:=HA.out
   clear HA
   simp only [spec_l1End.l0] at H
   by_cases c5:x7_1 > 0
   ·rw [if_pos c5] at H
    have c5b0:decide (0 < x7_1) = true:=decide_eq_true c5
    clear c5
    have HC6:=Aside0.mk H
    clear H
    go_upto_region 3 with (fail)
    repeat (go_quiet (fail);go_upto_region 3 with (fail))
    go_cut [25] (fun v25 wc=>∃ (kq:Nat) (x25_5:Bool),v25 = .bool x25_5 ∧ Aside0 (spec_l1End.j1 kq l1 x2_1 x7_1 x25_5 l0_0 = some r) ∧ Aside0 (kq ≤ k1) ∧ Aside0 (wc.heap[gb171]? = some (.cells #[(.slice A0_0 l0_0.length c0_0)] 30 (0,0))) ∧ Aside0 (Below w.heap.size w wc))
    case first =>
     have H:=HC6.out
     clear HC6
     by_cases c7:x2_1 ≥ (l1.length:Int)
     ·rw [if_pos c7] at H
      have c7b0:decide ((l1.length:Int) ≤ x2_1) = true:=decide_eq_true c7
      clear c7
      (first|rw [c7b0]|(simp only [i64_w,i32_w];rw [c7b0])|skip)
      have H':=Aside0.mk H
      clear H
      go_wp2
      repeat (go_quiet (fail);try go_wp2)
      go_meet
      case rel=>exact ⟨_,(true),Yd,H',⟨by have:=HK1.out;first|omega|exact Nat.le_refl _⟩,⟨by (with_reducible repeat (first|refine blk_drewN ?_ _|refine blk_drew ?_|refine blk_alloc ?_ _));exact BK171.out⟩,⟨bH⟩⟩
     ·rw [if_neg c7] at H
      have c7b0:decide ((l1.length:Int) ≤ x2_1) = false:=decide_eq_false c7
      clear c7
      (first|rw [c7b0]|(simp only [i64_w,i32_w];rw [c7b0])|skip)
      by_cases c8:0 ≤ x2_1
      ·rw [if_pos c8] at H
       have c8b0:=decide_eq_true c8
       clear c8
       by_cases c9:x2_1 < (l1.length:Int)
       ·rw [if_pos c9] at H
        have c9b0:=decide_eq_true c9
        clear c9
        replace H:=Option.bind_eq_some_iff.mp H
        obtain ⟨t173,A100,H⟩:=H
        replace H:(spec_l1End.j1 k1 l1 x2_1 x7_1 (!t173) l0_0) = some r:=H
        have A10:=Aside0.mk A100
        clear A100
        have H':=Aside0.mk H
        clear H
        have p172:0 ≤ (x2_1:Int):=oD
        have q172:x2_1 < (l1.length:Int):=oD
        obtain ⟨ad172,e172,hx172_0⟩:=Kd.at_int HR1.out x2_1 p172 q172
        cases e172
        replace hx172_0:=(HB.out.cell (World.block_lt_of_cell? w _ hx172_0)).trans hx172_0
        replace p172:=eq_true p172
        replace q172:=eq_true q172
        have hcz11_0:wr.cell? ⟨gb171,0,none⟩ = some (.slice A0_0 l0_0.length c0_0):=(blk_cell BK171.out 0).trans rfl
        have hfz11_0:=blk_frozen BK171.out 0
        go_wp2_with (first|(go_at_call 94;(with_reducible refine (spec_l1In.calls (rd l1 x2_1) (-12) (wrap64 ((l0_0.length:Int) - 1)) t173 _ A10.out).mono ?_);rintro e w' ⟨rfl,⟨nd,rfl⟩⟩;(try first|exact ⟨rfl,_,World.drewN_drewN _ _ _⟩|exact ⟨rfl,_,Eq.trans (World.drewN_drewN _ _ _) (congrArg (World.drewN _) (Nat.add_assoc _ _ _))⟩)))
        repeat (go_quiet (first|(go_at_call 94;(with_reducible refine (spec_l1In.calls (rd l1 x2_1) (-12) (wrap64 ((l0_0.length:Int) - 1)) t173 _ A10.out).mono ?_);rintro e w' ⟨rfl,⟨nd,rfl⟩⟩;(try first|exact ⟨rfl,_,World.drewN_drewN _ _ _⟩|exact ⟨rfl,_,Eq.trans (World.drewN_drewN _ _ _) (congrArg (World.drewN _) (Nat.add_assoc _ _ _))⟩)));try go_wp2_with (first|(go_at_call 94;(with_reducible refine (spec_l1In.calls (rd l1 x2_1) (-12) (wrap64 ((l0_0.length:Int) - 1)) t173 _ A10.out).mono ?_);rintro e w' ⟨rfl,⟨nd,rfl⟩⟩;(try first|exact ⟨rfl,_,World.drewN_drewN _ _ _⟩|exact ⟨rfl,_,Eq.trans (World.drewN_drewN _ _ _) (congrArg (World.drewN _) (Nat.add_assoc _ _ _))⟩))))
        go_meet
        case rel=>exact ⟨_,(!t173),Yd,H',⟨by have:=HK1.out;first|omega|exact Nat.le_refl _⟩,⟨by (with_reducible repeat (first|refine blk_drewN ?_ _|refine blk_drew ?_|refine blk_alloc ?_ _));exact BK171.out⟩,⟨bH⟩⟩
       ·rw [if_neg c9] at H
        exact absurd H (by simp)
      ·rw [if_neg c8] at H
       exact absurd H (by simp)
    case rest =>
     clear HC6
     try clear c1
     try clear p1
     try clear q1
     try clear hx1
     try clear p2
     try clear c5
     try clear c5b0
     try clear p6
     try clear c7
     try clear c7b0
     try clear c8
     try clear c8b0
     try clear c9
     try clear c9b0
     try clear c10
     try clear hcz11_0
     try clear hfz11_0
     try clear hx172_0
     try clear p172
     try clear p2
     try clear q172
     obtain ⟨kq,x25_5,rfl,HA,HJ5,BK171,HB⟩:=hcut
     cases kq with
     | zero=>exact absurd HA.out (by simp [spec_l1End.j1])
     | succ kj5 =>
      have H:=HA.out
      clear HA
      simp only [spec_l1End.j1] at H
      by_cases c12:x25_5 = true
      ·subst c12
       have H1:(some (-1)) = some r:=by rw [if_pos rfl] at H;exact H
       clear H
       have H:=H1
       clear H1
       obtain rfl:=Option.some.inj H
       go_wp2
       repeat (go_quiet (fail);try go_wp2)
       go_ret
       exact ⟨by first|rfl|(simp [errW_none,errW_some] <;> rfl)|(simp [*,errW_none,errW_some] <;> rfl),bH⟩
      ·replace c12:=Bool.eq_false_iff.mpr c12
       subst c12
       have H1:(if 0 ≤ x2_1 then (if x2_1 < (l1.length:Int) then (if (rd l1 x2_1) ≥ 0 then (if 0 ≤ (rd l1 x2_1) then (if (rd l1 x2_1) < (l0_0.length:Int) then (spec_l1End.l0 kj5 l1 (wrap64 (x2_1 + 1)) (wrap64 ((wrap64 (x7_1 - 1)) + (rd l0_0 (rd l1 x2_1)))) l0_0) else (none)) else (none)) else (spec_l1End.l0 kj5 l1 (wrap64 (x2_1 + 1)) (wrap64 (x7_1 - 1)) l0_0)) else (none)) else (none)) = some r:=by rw [if_neg (show ¬ (false = true) by decide)] at H;exact H
       clear H
       have H:=H1
       clear H1
       by_cases c13:0 ≤ x2_1
       ·rw [if_pos c13] at H
        have c13b0:=decide_eq_true c13
        clear c13
        by_cases c14:x2_1 < (l1.length:Int)
        ·rw [if_pos c14] at H
         have c14b0:=decide_eq_true c14
         clear c14
         by_cases c15:(rd l1 x2_1) ≥ 0
         ·rw [if_pos c15] at H
          have c15b0:decide (0 ≤ (rd l1 x2_1)) = true:=decide_eq_true c15
          clear c15
          by_cases c16:0 ≤ (rd l1 x2_1)
          ·rw [if_pos c16] at H
           have c16b0:=decide_eq_true c16
           clear c16
           by_cases c17:(rd l1 x2_1) < (l0_0.length:Int)
           ·rw [if_pos c17] at H
            have c17b0:=decide_eq_true c17
            clear c17
            have H':=Aside0.mk H
            clear H
            have p174:0 ≤ (x2_1:Int):=oD
            have q174:x2_1 < (l1.length:Int):=oD
            obtain ⟨ad174,e174,hx174_0⟩:=Kd.at_int HR1.out x2_1 p174 q174
            cases e174
            replace hx174_0:=(HB.out.cell (World.block_lt_of_cell? w _ hx174_0)).trans hx174_0
            replace p174:=eq_true p174
            replace q174:=eq_true q174
            have hcz18_0:wc.cell? ⟨gb171,0,none⟩ = some (.slice A0_0 l0_0.length c0_0):=(blk_cell BK171.out 0).trans rfl
            have hfz18_0:=blk_frozen BK171.out 0
            have p175:0 ≤ (x2_1:Int):=oD
            have q175:x2_1 < (l1.length:Int):=oD
            obtain ⟨ad175,e175,hx175_0⟩:=Kd.at_int HR1.out x2_1 p175 q175
            obtain rfl:ad174 = ad175:=(by injection e175)
            replace hx175_0:=(HB.out.cell (World.block_lt_of_cell? w _ hx175_0)).trans hx175_0
            replace p175:=eq_true p175
            replace q175:=eq_true q175
            have p176:0 ≤ ((rd l1 x2_1):Int):=oD
            have q176:(rd l1 x2_1) < (l0_0.length:Int):=oD
            obtain ⟨ad176,e176,hx176_0⟩:=Kd.at_int HR0_0.out (rd l1 x2_1) p176 q176
            cases e176
            replace hx176_0:=(HB.out.cell (World.block_lt_of_cell? w _ hx176_0)).trans hx176_0
            replace p176:=eq_true p176
            replace q176:=eq_true q176
            go_wp2
            repeat (go_quiet (fail);try go_wp2)
            go_roundg kj5
            case measure=>have:=HK1.out;have:=HJ5.out;omega
            case rel=>exact ⟨(wrap64 (x2_1 + 1)),(wrap64 ((wrap64 (x7_1 - 1)) + (rd l0_0 (rd l1 x2_1)))),Yd,Yd,H',⟨by have:=HK1.out;have:=HJ5.out;omega⟩,⟨by (with_reducible repeat (first|refine blk_drewN ?_ _|refine blk_drew ?_|refine blk_alloc ?_ _));exact BK171.out⟩,⟨bH⟩⟩
           ·rw [if_neg c17] at H
            exact absurd H (by simp)
          ·rw [if_neg c16] at H
           exact absurd H (by simp)
         ·rw [if_neg c15] at H
          have c15b0:decide (0 ≤ (rd l1 x2_1)) = false:=decide_eq_false c15
          clear c15
          have H':=Aside0.mk H
          clear H
          have p174:0 ≤ (x2_1:Int):=oD
          have q174:x2_1 < (l1.length:Int):=oD
          obtain ⟨ad174,e174,hx174_0⟩:=Kd.at_int HR1.out x2_1 p174 q174
          cases e174
          replace hx174_0:=(HB.out.cell (World.block_lt_of_cell? w _ hx174_0)).trans hx174_0
          replace p174:=eq_true p174
          replace q174:=eq_true q174
          go_wp2
          repeat (go_quiet (fail);try go_wp2)
          go_roundg kj5
          case measure=>have:=HK1.out;have:=HJ5.out;omega
          case rel=>exact ⟨(wrap64 (x2_1 + 1)),(wrap64 (x7_1 - 1)),Yd,Yd,H',⟨by have:=HK1.out;have:=HJ5.out;omega⟩,⟨by (with_reducible repeat (first|refine blk_drewN ?_ _|refine blk_drew ?_|refine blk_alloc ?_ _));exact BK171.out⟩,⟨bH⟩⟩
        ·rw [if_neg c14] at H
         exact absurd H (by simp)
       ·rw [if_neg c13] at H
        exact absurd H (by simp)
   ·rw [if_neg c5] at H
    have c5b0:decide (0 < x7_1) = false:=decide_eq_false c5
    clear c5
    obtain rfl:=Option.some.inj H
    go_wp2
    repeat (go_quiet (fail);try go_wp2)
    go_ret
    exact ⟨by first|rfl|(simp [errW_none,errW_some] <;> rfl)|(simp [*,errW_none,errW_some] <;> rfl),bH⟩

/-! ### spec_l1Term: function 68 -/
def spec_l1Term.f (k:Nat) (l0_0:List Int) (l1:List Int):Option (Bool):=(spec_l1In.f (l1.length:Int) 1 40).bind fun t178=>(if t178 = true then ((spec_l1End.f k l0_0 l1 0).bind fun t179=>(some (t179 == (l1.length:Int)))) else (some false))
theorem spec_l1Term.mono:∀ a0 a1 k,LeO (spec_l1Term.f k a0 a1) (spec_l1Term.f (k + 1) a0 a1):=by
 intro a0 a1 k
 unfold spec_l1Term.f
 have m0:=@spec_l1End.mono
 exact mO
set_option maxHeartbeats 8000000 in
set_option maxRecDepth 100000 in
theorem spec_l1Term.calls (k:Nat) (A0_0:Option Addr) (c0_0:Nat) (l0_0:List Int) (A1:Option Addr) (c1:Nat) (l1:List Int) (r:Bool) (w:World) (hr0_0:Kd.C (Kd.int .i64) w A0_0 l0_0.length l0_0) (hc0_0:l0_0.length ≤ c0_0) (hr1:Kd.C (Kd.int .i64) w A1 l1.length l1) (hc1:l1.length ≤ c1) (h:spec_l1Term.f k l0_0 l1 = some r) :
  Calls Try.prog 68 #[.agg #[.slice A0_0 l0_0.length c0_0],.slice A1 l1.length c1] w fun e w'=>e = .returned (.bool r) ∧ Below w.heap.size w w':=by
 have hu30:=Try.underlying30
 have HR0_0:=Aside0.mk hr0_0
 have HC0_0:=Aside0.mk hc0_0
 clear hr0_0 hc0_0
 have HR1:=Aside0.mk hr1
 have HC1:=Aside0.mk hc1
 clear hr1 hc1
 have HB:=Aside0.mk (Below.refl w.heap.size w)
 have H:((spec_l1In.f (l1.length:Int) 1 40).bind fun t178=>(if t178 = true then ((spec_l1End.f k l0_0 l1 0).bind fun t179=>(some (t179 == (l1.length:Int)))) else (some false))) = some r:=h
 clear h
 replace H:=Option.bind_eq_some_iff.mp H
 obtain ⟨t178,A30,H⟩:=H
 replace H:(if t178 = true then ((spec_l1End.f k l0_0 l1 0).bind fun t179=>(some (t179 == (l1.length:Int)))) else (some false)) = some r:=H
 have A3:=Aside0.mk A30
 clear A30
 by_cases c4:t178 = true
 ·subst c4
  have H1:((spec_l1End.f k l0_0 l1 0).bind fun t179=>(some (t179 == (l1.length:Int)))) = some r:=by rw [if_pos rfl] at H;exact H
  clear H
  have H:=H1
  clear H1
  replace H:=Option.bind_eq_some_iff.mp H
  obtain ⟨t179,A50,H⟩:=H
  replace H:(some (t179 == (l1.length:Int))) = some r:=H
  have A5:=Aside0.mk A50
  clear A50
  obtain rfl:=Option.some.inj H
  go_enter Try.func68,Try.ntmps68
  go_wp2_with (first|((with_reducible refine gate_dst (N:=2) rfl ?_);(try (refine gate_guard (by rfl) ?_;dsimp only));refine box_event ?hg (N:=2) ?hd (cs:=#[.slice A0_0 l0_0.length c0_0]) (t:=30) ?hr ?_;(case hd=>rfl);(case hg=>rfl);(case hr=>first|(go_simp;done)|(go_simp;rfl));intro gb177 hg w6 hbox hb;have BK177:=Aside0.mk (hbox);have GW177:=Aside0.mk ((hZ:w.heap.size ≤ gb177));have GE177:=Aside0.mk ((hZ:w.heap.size ≤ gb177));replace HB:=Aside0.mk (below_step bH hb);clear hb hbox hg)|((with_reducible refine gate_callee (f:=94) rfl ?_);refine goesL_ (some 7) rfl rfl Try.func94 (by kernel_rfl) rfl #[.int .i64 (l1.length:Int),.int .i64 1,.int .i64 40] rfl Ya ?_;(with_reducible refine (spec_l1In.calls (l1.length:Int) 1 40 true _ A3.out).mono ?_);rintro e w' ⟨rfl,⟨nd,rfl⟩⟩;refine ⟨_,rfl,?_⟩;have hcz7_0:w6.cell? ⟨gb177,0,none⟩ = some (.slice A0_0 l0_0.length c0_0):=(blk_cell BK177.out 0).trans rfl;have hfz7_0:=blk_frozen BK177.out 0)|(go_at_call 102;(with_reducible refine (spec_l1End.calls k _ _ l0_0 _ _ l1 0 t179 _ ?side1 ?side2 ?side3 ?side4 A5.out).mono ?_);(case side1=>repeat (first|exact (Kd.C_below HR0_0.out bH)|(with_reducible refine Kd.C_alloc ?_ _)|(with_reducible refine Kd.C_drewN ?_ _)|(with_reducible refine Kd.C_drew ?_)));(case side2=>exact HC0_0.out);(case side3=>repeat (first|exact (Kd.C_below HR1.out bH)|(with_reducible refine Kd.C_alloc ?_ _)|(with_reducible refine Kd.C_drewN ?_ _)|(with_reducible refine Kd.C_drew ?_)));(case side4=>exact HC1.out);rintro e w8 ⟨rfl,hb⟩;replace BK177:=Aside0.mk (blk_below (bB BK177) hb);replace HB:=Aside0.mk (below_step bH hb);(try clear hb);(try clear hb2);(try clear hk);(try clear hi)))
  go_ret
  exact ⟨by first|rfl|(simp [errW_none,errW_some] <;> rfl)|(simp [*,errW_none,errW_some] <;> rfl),bH⟩
 ·replace c4:=Bool.eq_false_iff.mpr c4
  subst c4
  have H1:(some false) = some r:=by rw [if_neg (show ¬ (false = true) by decide)] at H;exact H
  clear H
  have H:=H1
  clear H1
  obtain rfl:=Option.some.inj H
  go_enter Try.func68,Try.ntmps68
  go_wp2_with (first|((with_reducible refine gate_dst (N:=2) rfl ?_);(try (refine gate_guard (by rfl) ?_;dsimp only));refine box_event ?hg (N:=2) ?hd (cs:=#[.slice A0_0 l0_0.length c0_0]) (t:=30) ?hr ?_;(case hd=>rfl);(case hg=>rfl);(case hr=>first|(go_simp;done)|(go_simp;rfl));intro gb177 hg w9 hbox hb;have BK177:=Aside0.mk (hbox);have GW177:=Aside0.mk ((hZ:w.heap.size ≤ gb177));have GE177:=Aside0.mk ((hZ:w.heap.size ≤ gb177));replace HB:=Aside0.mk (below_step bH hb);clear hb hbox hg)|((with_reducible refine gate_callee (f:=94) rfl ?_);refine goesL_ (some 7) rfl rfl Try.func94 (by kernel_rfl) rfl #[.int .i64 (l1.length:Int),.int .i64 1,.int .i64 40] rfl Ya ?_;(with_reducible refine (spec_l1In.calls (l1.length:Int) 1 40 false _ A3.out).mono ?_);rintro e w' ⟨rfl,⟨nd,rfl⟩⟩;refine ⟨_,rfl,?_⟩))
  go_ret
  exact ⟨by first|rfl|(simp [errW_none,errW_some] <;> rfl)|(simp [*,errW_none,errW_some] <;> rfl),bH⟩

end Go.Proofs.Ytlgnanbnicmdaab.QFnExactReadClause
