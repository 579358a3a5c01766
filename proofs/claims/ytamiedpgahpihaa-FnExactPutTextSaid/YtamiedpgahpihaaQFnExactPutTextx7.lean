-- Written by this session's own program (wip/x/xprint.py, over the kit's printer); Lean checks it.
import Derived.Test.YtamiedpgahpihaaQFnExactPutTextx0
import Derived.Test.YtamiedpgahpihaaQFnExactPutTextx6
namespace Go.Proofs.Ytamiedpgahpihaa.QFnExactPutText
open Go.RowKit Go.Proofs.YtamiedpgahpihaaW.PrintWords Go.Proofs.YtamiedpgahpihaaW.PrintLast Go.Proofs.YtamiedpgahpihaaW.PrintMore
attribute [local go_sem] max2_int min2_int max_two min_two max_three min_three max_four min_four   -- for this text's walks alone
set_option linter.unusedVariables false
set_option linter.unusedSimpArgs false

/-! ### slices_Grow_string_string: function 52 -/
def slices_Grow_string_string.f  (a1:Int):Option (List ByteArray):=if a1 < 0 then (none) else (if (wrap64 (a1)) > 0 then (if 0 ≤ (wrap64 (a1)) then (if ([]:List ByteArray).length + (wrap64 (a1):Int).toNat < 8796093022208 then ((some (([]:List ByteArray) ++ List.replicate (wrap64 (a1):Int).toNat (⟨#[]⟩:ByteArray):List ByteArray)).bind fun y250=>(if 0 ≤ (y250.length:Int) then (some (y250.take (0:Int).toNat)) else (none))) else (none)) else (none)) else (some ([]:List ByteArray)))
set_option maxHeartbeats 8000000 in
set_option maxRecDepth 100000 in
theorem slices_Grow_string_string.calls  (a1:Int) (r:List ByteArray) (w:World) (h:slices_Grow_string_string.f a1 = some r) :
  Calls Try.prog 52 #[.slice none 0 0,.int .i64 a1] w fun e w'=>∃ v0_:Value,e = .returned (v0_) ∧ Kd.R Kd.string 9 w' w.heap.size (fun _=>True) v0_ r ∧ Below w.heap.size w w':=by
 have HB:=Aside0.mk (Below.refl w.heap.size w)
 have H:(if a1 < 0 then (none) else (if (wrap64 (a1)) > 0 then (if 0 ≤ (wrap64 (a1)) then (if ([]:List ByteArray).length + (wrap64 (a1):Int).toNat < 8796093022208 then ((some (([]:List ByteArray) ++ List.replicate (wrap64 (a1):Int).toNat (⟨#[]⟩:ByteArray):List ByteArray)).bind fun y250=>(if 0 ≤ (y250.length:Int) then (some (y250.take (0:Int).toNat)) else (none))) else (none)) else (none)) else (some ([]:List ByteArray)))) = some r:=h
 clear h
 by_cases c3:a1 < 0
 ·rw [if_pos c3] at H
  exact absurd H (by simp)
 ·rw [if_neg c3] at H
  have c3b0:decide (a1 < 0) = false:=decide_eq_false c3
  clear c3
  by_cases c4:(wrap64 (a1)) > 0
  ·rw [if_pos c4] at H
   have c4b0:decide (0 < (wrap64 (a1))) = true:=decide_eq_true c4
   clear c4
   obtain ⟨ji5,hji5⟩:∃ j_:Int,(wrap64 (a1)) = j_:=⟨_,rfl⟩
   replace H:(if 0 ≤ (ji5) then (if ([]:List ByteArray).length + (ji5:Int).toNat < 8796093022208 then ((some (([]:List ByteArray) ++ List.replicate (ji5:Int).toNat (⟨#[]⟩:ByteArray):List ByteArray)).bind fun y250=>(if 0 ≤ (y250.length:Int) then (some (y250.take (0:Int).toNat)) else (none))) else (none)) else (none)) = some r:=by first|(rw [hji5] at H;exact H)|(simp only [hji5] at H ⊢;exact H)
   (try rw [hji5] at c4b0)
   have hji5w:(IntKind.i64.wrap (a1)) = ji5:=(i64_w _).trans hji5
   by_cases c6:0 ≤ (ji5)
   ·rw [if_pos c6] at H
    have c6b0:=eq_true c6
    have c6b1:decide (0 ≤ (ji5)) = true:=decide_eq_true c6
    clear c6
    by_cases c7:([]:List ByteArray).length + (ji5:Int).toNat < 8796093022208
    ·rw [if_pos c7] at H
     have LMc7:=Aside0.mk c7
     clear c7
     obtain ⟨y250,hy250⟩:∃ y_:List ByteArray,y_ = (([]:List ByteArray) ++ List.replicate (ji5:Int).toNat (⟨#[]⟩:ByteArray)):=⟨_,rfl⟩
     replace H:(if 0 ≤ (y250.length:Int) then (some (y250.take (0:Int).toNat)) else (none)) = some r:=by first|(rw [hy250];with_reducible exact H)|(have H2_:=(Option.bind_some _ _).symm.trans H;rw [hy250];with_reducible exact H2_)|(have H2_:=(Option.bind_some _ _).symm.trans H;with_reducible exact H2_)|with_reducible exact H|(rw [hy250];exact H)|exact H
     have Ny250:=Aside0.mk hy250
     clear hy250
     by_cases c8:0 ≤ (y250.length:Int)
     ·rw [if_pos c8] at H
      have c8b0:=eq_true c8
      have c8b1:decide (0 ≤ (y250.length:Int)) = true:=decide_eq_true c8
      clear c8
      obtain ⟨y253,hy253⟩:∃ y_:List ByteArray,y_ = (y250.take (0:Int).toNat):=⟨_,rfl⟩
      replace H:(some y253) = some r:=by first|(rw [hy253];with_reducible exact H)|(have H2_:=(Option.bind_some _ _).symm.trans H;rw [hy253];with_reducible exact H2_)|(have H2_:=(Option.bind_some _ _).symm.trans H;with_reducible exact H2_)|with_reducible exact H|(rw [hy253];exact H)|exact H
      have Ny253:=Aside0.mk hy253
      clear hy253
      obtain rfl:=Option.some.inj H
      go_enter Try.func52,Try.ntmps52
      go_wp2_with (first|(at_builtin;refine Kd.R_append_zeros Kd.string (w0:=w) w.heap.size rfl (.tmp 20) (.tmp 21) 28 3 9 (.string ⟨#[]⟩) 16 rfl Try.underlying28 Try.underlying3 info9 rfl (by decide) (by first|decide|omega) (.slice none 0 0) ([]:List ByteArray) (⟨#[]⟩:ByteArray) (ji5:Int) (fun _=>True) rfl rfl rfl ?aF ?aO (of_decide_eq_true (by first|(with_reducible assumption)|assumption)) ?aB ?aS ?aL ?_;(case aB=>exact (by repeat (first|(with_reducible first|exact HB.out|apply below_alloc|apply pw_below_drewN|apply below_drew1)|exact HB.out)));(case aF=>exact (fun _ _=>trivial));(case aO=>exact ((Kd.R_nil _ _ _ _ (fun _=>True))));(case aS=>exact (below_size (by repeat (first|(with_reducible first|exact HB.out|apply below_alloc|apply pw_below_drewN|apply below_drew1)|exact HB.out))));(case aL=>have:=LMc7.out;omega);intro v251 w9 ho hb hg hat;rw [← Ny250.out] at ho;have n0_:=Aside0.mk (hb);have n1_:=Aside0.mk (ho);clear HB;have HB:=n0_;have HO252:=n1_;clear n0_ n1_;clear ho hb hg hat;obtain ⟨Ao10,co10,eo10⟩:=Kd.R_slice HO252.out;subst eo10;have q11:(0:Int) ≤ ((y250.length:Int):Int):=of_decide_eq_true (by first|(with_reducible assumption)|assumption);obtain ⟨i011,hi011,_,hsz11,_⟩:=info_parts info9;have hcut11:=cut_to (P:=Try.prog) 28 9 .i64 Try.underlying28 hi011 Ao10 y250.length co10 0 (by omega) q11 (Kd.R_reads' HO252.out).2.1;have hr11:=Kd.R_take (m:=(0:Int).toNat) HO252.out (by omega);have hy11:y253.length = (0:Int).toNat:=(by rw [Ny253.out,List.length_take];omega);rw [← Ny253.out] at hr11;rw [← hy11] at hr11 hcut11;clear hy11 hi011 hsz11 HO252;have HO255:=Aside0.mk hr11;clear hr11;replace q11:=eq_true q11))
      go_ret
      exact ⟨_,by first|rfl|(simp [errW_none,errW_some] <;> rfl)|(simp only [← hji5];first|rfl|(simp [errW_none,errW_some] <;> rfl))|(simp [*,errW_none,errW_some] <;> rfl),by (with_reducible repeat (first|apply Kd.R_alloc|apply Kd.R_drewN|apply Kd.R_drew));exact HO255.out,by repeat (first|(with_reducible first|exact HB.out|apply below_alloc|apply pw_below_drewN|apply below_drew1)|exact HB.out)⟩
     ·rw [if_neg c8] at H
      exact absurd H (by simp)
    ·rw [if_neg c7] at H
     exact absurd H (by simp)
   ·rw [if_neg c6] at H
    exact absurd H (by simp)
  ·rw [if_neg c4] at H
   have c4b0:decide (0 < (wrap64 (a1))) = false:=decide_eq_false c4
   clear c4
   obtain rfl:=Option.some.inj H
   go_enter Try.func52,Try.ntmps52
   go_wp2
   go_ret
   exact ⟨_,by first|rfl|(simp [errW_none,errW_some] <;> rfl)|(simp [*,errW_none,errW_some] <;> rfl),by first|exact Kd.R_nil _ _ _ _ _|exact Kd.N_nil _ _ _ _ _|exact Kd.V_nil _ _ _ _ _|exact Kd.Q_nil _ _ _ _ _|exact Kd.S_nil _ _ _ _ _,by repeat (first|(with_reducible first|exact HB.out|apply below_alloc|apply pw_below_drewN|apply below_drew1)|exact HB.out)⟩

/-! ### slices_Concat_string_string: function 46 -/
mutual
def slices_Concat_string_string.l0:Nat → List (List ByteArray) → Int → List (List ByteArray) → Int → Int → Option (List ByteArray)
 | 0,_,_,_,_,_=>none
 | k + 1,x0,x3,x9,x10,x11=>if x11 < x10 then (if 0 ≤ x11 then (if x11 < (x9.length:Int) then (if (wrap64 (x3 + ((rd_L2 x9 x11).length:Int))) < 0 then (none) else (slices_Concat_string_string.l0 k x0 (wrap64 (x3 + ((rd_L2 x9 x11).length:Int))) x9 x10 (wrap64 (x11 + 1)))) else (none)) else (none)) else ((slices_Grow_string_string.f x3).bind fun t257=>(slices_Concat_string_string.l1 k t257 x0 (x0.length:Int) 0))
def slices_Concat_string_string.l1:Nat → List ByteArray → List (List ByteArray) → Int → Int → Option (List ByteArray)
 | 0,_,_,_,_=>none
 | k + 1,x6,x25,x26,x27=>if x27 < x26 then (if 0 ≤ x27 then (if x27 < (x25.length:Int) then (if x6.length + (rd_L2 x25 x27).length < 8796093022208 then (slices_Concat_string_string.l1 k (x6 ++ (rd_L2 x25 x27)) x25 x26 (wrap64 (x27 + 1))) else (none)) else (none)) else (none)) else (some x6)
end
def slices_Concat_string_string.f (k:Nat) (l0:List (List ByteArray)):Option (List ByteArray):=slices_Concat_string_string.l0 k l0 0 l0 (l0.length:Int) 0
theorem slices_Concat_string_string.mono_l:∀ k,(∀ y0 y1 y2 y3 y4,LeO (slices_Concat_string_string.l0 k y0 y1 y2 y3 y4) (slices_Concat_string_string.l0 (k + 1) y0 y1 y2 y3 y4)) ∧ (∀ y0 y1 y2 y3,LeO (slices_Concat_string_string.l1 k y0 y1 y2 y3) (slices_Concat_string_string.l1 (k + 1) y0 y1 y2 y3))
 | 0=>⟨fun _ _ _ _ _ r h=>by simp [slices_Concat_string_string.l0] at h,fun _ _ _ _ r h=>by simp [slices_Concat_string_string.l1] at h⟩
 | k + 1=>by
  obtain ⟨ih0,ih1⟩:=slices_Concat_string_string.mono_l k
  refine ⟨?_,?_⟩
  ·intro y0 y1 y2 y3 y4
   unfold slices_Concat_string_string.l0
   repeat' first
   | (with_reducible exact ih0 _ _ _ _ _)
   | (with_reducible exact ih1 _ _ _ _)
   | (with_reducible exact LeO.refl _)
   | (with_reducible exact LeO.none _)
   | (with_reducible refine LeO.ite ?_ ?_)
   | (with_reducible refine LeO.bind ?_ (fun _=>?_))
   | exact ih0 _ _ _ _ _
   | exact ih1 _ _ _ _
   | exact LeO.none _
   | refine LeO.ite ?_ ?_
   | refine LeO.bind ?_ (fun _=>?_)
  ·intro y0 y1 y2 y3
   unfold slices_Concat_string_string.l1
   repeat' first
   | (with_reducible exact ih0 _ _ _ _ _)
   | (with_reducible exact ih1 _ _ _ _)
   | (with_reducible exact LeO.refl _)
   | (with_reducible exact LeO.none _)
   | (with_reducible refine LeO.ite ?_ ?_)
   | (with_reducible refine LeO.bind ?_ (fun _=>?_))
   | exact ih0 _ _ _ _ _
   | exact ih1 _ _ _ _
   | exact LeO.none _
   | refine LeO.ite ?_ ?_
   | refine LeO.bind ?_ (fun _=>?_)
theorem slices_Concat_string_string.mono:∀ a0 k,LeO (slices_Concat_string_string.f k a0) (slices_Concat_string_string.f (k + 1) a0):=by
 intro a0 k
 obtain ⟨ih0,ih1⟩:=slices_Concat_string_string.mono_l k
 unfold slices_Concat_string_string.f
 repeat' first
   | (with_reducible exact ih0 _ _ _ _ _)
   | (with_reducible exact ih1 _ _ _ _)
   | (with_reducible exact LeO.refl _)
   | (with_reducible exact LeO.none _)
   | (with_reducible refine LeO.ite ?_ ?_)
   | (with_reducible refine LeO.bind ?_ (fun _=>?_))
   | exact ih0 _ _ _ _ _
   | exact ih1 _ _ _ _
   | exact LeO.none _
   | refine LeO.ite ?_ ?_
   | refine LeO.bind ?_ (fun _=>?_)
set_option maxHeartbeats 8000000 in
set_option maxRecDepth 100000 in
theorem slices_Concat_string_string.calls (k:Nat) (A0:Option Addr) (c0:Nat) (l0:List (List ByteArray)) (r:List ByteArray) (w:World) (hr0:Kd.C (Kd.slice 9 Kd.string) w A0 l0.length l0) (hc0:l0.length ≤ c0) (h:slices_Concat_string_string.f k l0 = some r) :
  Calls Try.prog 46 #[.slice A0 l0.length c0] w fun e w'=>∃ v0_:Value,e = .returned (v0_) ∧ Kd.R Kd.string 9 w' w.heap.size (fun _=>True) v0_ r ∧ Below w.heap.size w w':=by
 have HR0:=Aside0.mk hr0
 have HC0:=Aside0.mk hc0
 clear hr0 hc0
 have HB:=Aside0.mk (Below.refl w.heap.size w)
 have H:(slices_Concat_string_string.l0 k l0 0 l0 (l0.length:Int) 0) = some r:=h
 clear h
 have H':=Aside0.mk H
 clear H
 go_enter Try.func46,Try.ntmps46
 go_wp2
 go_loopg [3,11] k (fun kq v3 v11 w'=>∃ (x3_1:Int) (x11_1:Int),v3 = .int .i64 x3_1 ∧ v11 = .int .i64 x11_1 ∧ Aside0 (slices_Concat_string_string.l0 kq l0 x3_1 l0 (l0.length:Int) x11_1 = some r) ∧ Aside0 (kq ≤ k) ∧ Aside0 (Below w.heap.size w w'))
 case atStart=>exact ⟨(0),(0),(by first|rfl|(simp;done)|(simp [*];done)),(by first|rfl|(simp;done)|(simp [*];done)),H',⟨Nat.le_refl _⟩,⟨by repeat (first|(with_reducible first|exact HB.out|apply below_alloc|apply pw_below_drewN|apply below_drew1)|exact HB.out)⟩⟩
 case round =>
  clear H'
  obtain ⟨x3_1,x11_1,rfl,rfl,HA,HK1,HB⟩:=hrel
  cases gk with
  | zero=>exact absurd HA.out (by simp [slices_Concat_string_string.l0])
  | succ k1 =>
   have H:=HA.out
   clear HA
   simp only [slices_Concat_string_string.l0] at H
   by_cases c2:x11_1 < (l0.length:Int)
   ·rw [if_pos c2] at H
    have c2b0:decide (x11_1 < (l0.length:Int)) = true:=decide_eq_true c2
    clear c2
    by_cases c3:0 ≤ x11_1
    ·rw [if_pos c3] at H
     have c3b0:decide (0 ≤ x11_1) = true:=decide_eq_true c3
     clear c3
     by_cases c4:x11_1 < (l0.length:Int)
     ·rw [if_pos c4] at H
      have c4b0:decide (x11_1 < (l0.length:Int)) = true:=decide_eq_true c4
      clear c4
      by_cases c5:(wrap64 (x3_1 + ((rd_L2 l0 x11_1).length:Int))) < 0
      ·rw [if_pos c5] at H
       exact absurd H (by simp)
      ·rw [if_neg c5] at H
       have c5b0:decide ((wrap64 (x3_1 + ((rd_L2 l0 x11_1).length:Int))) < 0) = false:=decide_eq_false c5
       clear c5
       have H':=Aside0.mk H
       clear H
       have p256:0 ≤ (x11_1:Int):=of_decide_eq_true (by first|(with_reducible assumption)|assumption)
       have q256:x11_1 < (l0.length:Int):=of_decide_eq_true (by first|(with_reducible assumption)|assumption)
       obtain ⟨ad256,A256_0,c256_0,e256,hx256_0,hl256_0,hi256_0⟩:=at_L2 HR0.out x11_1 p256 q256
       cases e256
       replace hx256_0:=(HB.out.cell (World.block_lt_of_cell? w _ hx256_0)).trans hx256_0
       have HR256_0:=Aside0.mk hi256_0
       have HC256_0:=Aside0.mk hl256_0
       clear hi256_0 hl256_0
       replace p256:=eq_true p256
       replace q256:=eq_true q256
       go_wp2
       go_roundg k1
       case measure=>have:=HK1.out;omega
       case rel=>exact ⟨(wrap64 (x3_1 + ((rd_L2 l0 x11_1).length:Int))),(wrap64 (x11_1 + 1)),(by first|rfl|(simp;done)|(simp [*];done)),(by first|rfl|(simp;done)|(simp [*];done)),H',⟨by have:=HK1.out;omega⟩,⟨by repeat (first|(with_reducible first|exact HB.out|apply below_alloc|apply pw_below_drewN|apply below_drew1)|exact HB.out)⟩⟩
     ·rw [if_neg c4] at H
      exact absurd H (by simp)
    ·rw [if_neg c3] at H
     exact absurd H (by simp)
   ·rw [if_neg c2] at H
    have c2b0:decide (x11_1 < (l0.length:Int)) = false:=decide_eq_false c2
    clear c2
    replace H:=Option.bind_eq_some_iff.mp H
    obtain ⟨t257,A60,H⟩:=H
    replace H:(slices_Concat_string_string.l1 k1 t257 l0 (l0.length:Int) 0) = some r:=H
    have A6:=Aside0.mk A60
    clear A60
    have H':=Aside0.mk H
    clear H
    go_wp2_with (first|((with_reducible refine gate_callee (f:=52) rfl ?_);refine goesL_ (some 24) rfl rfl Try.func52 (by kernel_rfl) rfl #[.slice none 0 0,.int .i64 x3_1] rfl (by (try simp only [List.map_toArray,List.map_cons,List.map_nil]);first|done|rfl|(simp only [List.length_drop,List.length_take];rfl)) ?_;(with_reducible refine (slices_Grow_string_string.calls  x3_1 t257 _ A6.out).mono ?_);rintro e w7 ⟨v258,rfl,ho0,hb⟩;refine ⟨_,rfl,?_⟩;have n0_:=Aside0.mk (Kd.R_lower ho0 (below_size (by repeat (first|(with_reducible first|exact HB.out|apply below_alloc|apply pw_below_drewN|apply below_drew1)|exact HB.out))));have n1_:=Aside0.mk (below_step (by repeat (first|(with_reducible first|exact HB.out|apply below_alloc|apply pw_below_drewN|apply below_drew1)|exact HB.out)) hb);clear HB;have HO259:=n0_;have HB:=n1_;clear n0_ n1_;(try clear hb);(try clear hb2);(try clear hk);(try clear hi);(try clear ho0)))
    go_loopg [6,27] k1 (fun kq v6 v27 w'=>∃ (x6_2:List ByteArray) (x27_2:Int),v27 = .int .i64 x27_2 ∧ Aside0 (slices_Concat_string_string.l1 kq x6_2 l0 (l0.length:Int) x27_2 = some r) ∧ Aside0 (kq ≤ k1) ∧ Aside0 (Kd.R Kd.string 9 w' w.heap.size (fun _=>True) v6 x6_2) ∧ Aside0 (Below w.heap.size w w'))
    case atStart=>exact ⟨(t257),(0),(by first|rfl|(simp;done)|(simp [*];done)),H',⟨Nat.le_refl _⟩,⟨by (with_reducible repeat (first|apply Kd.R_alloc|apply Kd.R_drewN|apply Kd.R_drew));exact HO259.out⟩,⟨by repeat (first|(with_reducible first|exact HB.out|apply below_alloc|apply pw_below_drewN|apply below_drew1)|exact HB.out)⟩⟩
    case round =>
     clear H'
     try clear c2
     try clear c2b0
     try clear p2
     try clear q2
     try clear hx2
     try clear c3
     try clear c3b0
     try clear c4
     try clear c4b0
     try clear c5
     try clear c5b0
     try clear p6
     try clear hx256_0
     try clear p256
     try clear q256
     obtain ⟨x6_2,x27_2,rfl,HA,HK2,HO_6,HB⟩:=hrel
     cases gk with
     | zero=>exact absurd HA.out (by simp [slices_Concat_string_string.l1])
     | succ k2 =>
      have H:=HA.out
      clear HA
      simp only [slices_Concat_string_string.l1] at H
      by_cases c8:x27_2 < (l0.length:Int)
      ·rw [if_pos c8] at H
       have c8b0:decide (x27_2 < (l0.length:Int)) = true:=decide_eq_true c8
       clear c8
       by_cases c9:0 ≤ x27_2
       ·rw [if_pos c9] at H
        have c9b0:decide (0 ≤ x27_2) = true:=decide_eq_true c9
        clear c9
        by_cases c10:x27_2 < (l0.length:Int)
        ·rw [if_pos c10] at H
         have c10b0:decide (x27_2 < (l0.length:Int)) = true:=decide_eq_true c10
         clear c10
         by_cases c11:x6_2.length + (rd_L2 l0 x27_2).length < 8796093022208
         ·rw [if_pos c11] at H
          have LMc11:=Aside0.mk c11
          clear c11
          obtain ⟨y261,hy261⟩:∃ y_:List ByteArray,y_ = (x6_2 ++ (rd_L2 l0 x27_2)):=⟨_,rfl⟩
          replace H:(slices_Concat_string_string.l1 k2 y261 l0 (l0.length:Int) (wrap64 (x27_2 + 1))) = some r:=by first|(rw [hy261];with_reducible exact H)|(have H2_:=(Option.bind_some _ _).symm.trans H;rw [hy261];with_reducible exact H2_)|(have H2_:=(Option.bind_some _ _).symm.trans H;with_reducible exact H2_)|with_reducible exact H|(rw [hy261];exact H)|exact H
          have Ny261:=Aside0.mk hy261
          clear hy261
          have H':=Aside0.mk H
          clear H
          have p260:0 ≤ (x27_2:Int):=of_decide_eq_true (by first|(with_reducible assumption)|assumption)
          have q260:x27_2 < (l0.length:Int):=of_decide_eq_true (by first|(with_reducible assumption)|assumption)
          obtain ⟨ad260,A260_0,c260_0,e260,hx260_0,hl260_0,hi260_0⟩:=at_L2 HR0.out x27_2 p260 q260
          cases e260
          replace hx260_0:=(HB.out.cell (World.block_lt_of_cell? w _ hx260_0)).trans hx260_0
          have HR260_0:=Aside0.mk hi260_0
          have HC260_0:=Aside0.mk hl260_0
          clear hi260_0 hl260_0
          replace p260:=eq_true p260
          replace q260:=eq_true q260
          go_wp2_with (first|((with_reducible refine gate_builtin (b:=.append) (xs:=#[.tmp 31,.tmp 32]) rfl ?_);at_builtin;refine Kd.R_append_rows Kd.string (w0:=w) w.heap.size rfl (.tmp 31) (.tmp 32) 28 9 (.string ⟨#[]⟩) 16 rfl Try.underlying28 info9 rfl (by decide) (by first|decide|omega) u6 x6_2 (rd_L2 l0 x27_2) _ _ _ (fun _=>True) (fun _=>False) rfl rfl ?aO ?aR (fun _ _ h=>h) (fun _ h=>h.elim) ?aF ?aB ?aS ?aL ?_;(case aR=>repeat (first|exact (Kd.C_below HR260_0.out HB.out)|(with_reducible refine Kd.C_alloc ?_ _)|(with_reducible refine Kd.C_drewN ?_ _)|(with_reducible refine Kd.C_drew ?_)));(case aB=>exact (by repeat (first|(with_reducible first|exact HB.out|apply below_alloc|apply pw_below_drewN|apply below_drew1)|exact HB.out)));(case aF=>exact (fun _ _=>trivial));(case aO=>exact (by (with_reducible repeat (first|apply Kd.R_alloc|apply Kd.R_drewN|apply Kd.R_drew));exact HO_6.out));(case aS=>exact (below_size (by repeat (first|(with_reducible first|exact HB.out|apply below_alloc|apply pw_below_drewN|apply below_drew1)|exact HB.out))));(case aL=>have:=LMc11.out;omega);intro v262 w12 ho hb hg hat;rw [← Ny261.out] at ho;have n0_:=Aside0.mk (hb);have n1_:=Aside0.mk (ho);clear HB;clear HO_6;have HB:=n0_;have HO263:=n1_;clear n0_ n1_;clear ho hb hg hat))
          go_roundg k2
          case measure=>have:=HK1.out;have:=HK2.out;omega
          case rel=>exact ⟨(y261),(wrap64 (x27_2 + 1)),(by first|rfl|(simp;done)|(simp [*];done)),H',⟨by have:=HK1.out;have:=HK2.out;omega⟩,⟨by (with_reducible repeat (first|apply Kd.R_alloc|apply Kd.R_drewN|apply Kd.R_drew));exact HO263.out⟩,⟨by repeat (first|(with_reducible first|exact HB.out|apply below_alloc|apply pw_below_drewN|apply below_drew1)|exact HB.out)⟩⟩
         ·rw [if_neg c11] at H
          exact absurd H (by simp)
        ·rw [if_neg c10] at H
         exact absurd H (by simp)
       ·rw [if_neg c9] at H
        exact absurd H (by simp)
      ·rw [if_neg c8] at H
       have c8b0:decide (x27_2 < (l0.length:Int)) = false:=decide_eq_false c8
       clear c8
       obtain rfl:=Option.some.inj H
       go_wp2
       go_ret
       exact ⟨_,by first|rfl|(simp [errW_none,errW_some] <;> rfl)|(simp [*,errW_none,errW_some] <;> rfl),by (with_reducible repeat (first|apply Kd.R_alloc|apply Kd.R_drewN|apply Kd.R_drew));exact HO_6.out,by repeat (first|(with_reducible first|exact HB.out|apply below_alloc|apply pw_below_drewN|apply below_drew1)|exact HB.out)⟩

/-! ### impl_GoodDisk_1: function 51 -/
def impl_GoodDisk_1.f (a0:ByteArray):Option (Bool):=some ((a0.size:Int) != 16)
set_option maxHeartbeats 8000000 in
set_option maxRecDepth 100000 in
theorem impl_GoodDisk_1.calls (a0:ByteArray) (r:Bool) (w:World) (h:impl_GoodDisk_1.f a0 = some r) :
  Calls Try.prog 51 #[.string a0] w fun e w'=>e = .returned (.bool r) ∧ Drawn0 w w':=by
 have H:(some ((a0.size:Int) != 16)) = some r:=h
 clear h
 obtain rfl:=Option.some.inj H
 go_enter Try.func51,Try.ntmps51
 go_wp2
 go_ret
 exact ⟨by first|rfl|(simp;done)|(simp [*];done),by repeat (first|exact Drawn0.refl _|apply Drawn0.step)⟩

/-! ### slices.ContainsFunc and IndexFunc, told -/
/-- The place of the first element of which f holds, told from i on; -1. -/
def idxO {α:Type} (f:α → Option Bool):Int → List α → Option Int
  | _,[]=>some (-1)
  | i,x :: t=>(f x).bind fun b=>if b = true then some i else idxO f (i + 1) t
/-- Does f hold of an element? -/
def anyO {α:Type} (f:α → Option Bool):List α → Option Bool
  | []=>some false
  | x :: t=>(f x).bind fun b=>if b = true then some true else anyO f t
theorem idxO_any {α:Type} (f:α → Option Bool) (l:List α):∀ (i:Int) (r:Bool),0 ≤ i → anyO f l = some r → ∃ j,idxO f i l = some j ∧ r = decide (0 ≤ j):=by
  induction l with
  | nil=>intro i r hi h;exact ⟨-1,rfl,by simpa [anyO] using h.symm⟩
  | cons x t ih =>
    intro i r hi h
    simp only [anyO] at h
    simp only [idxO]
    cases hx:f x with
    | none=>rw [hx] at h;simp at h
    | some b =>
      rw [hx] at h
      cases b with
      | true=>simp at h;exact ⟨i,by simp,by simp [hi,← h]⟩
      | false =>
        simp at h
        obtain ⟨j,h1,h2⟩:=ih (i + 1) r (by omega) h
        exact ⟨j,by simpa using h1,h2⟩
theorem anyO_mono {α:Type} {f g:α → Option Bool} (h:∀ x,LeO (f x) (g x)) (l:List α):LeO (anyO f l) (anyO g l):=by
  induction l with
  | nil=>exact LeO.refl _
  | cons x t ih =>
    simp only [anyO]
    exact LeO.bind (h x) (fun b=>LeO.ite (LeO.refl _) ih)
theorem idxO_mono {α:Type} {f g:α → Option Bool} (h:∀ x,LeO (f x) (g x)) (l:List α):∀ i,LeO (idxO f i l) (idxO g i l):=by
  induction l with
  | nil=>exact fun _=>LeO.refl _
  | cons x t ih =>
    intro i
    simp only [idxO]
    exact LeO.bind (h x) (fun b=>LeO.ite (LeO.refl _) (ih _))

/-! ### slices_IndexFunc: function 60 -/
set_option maxHeartbeats 2000000 in
set_option maxRecDepth 100000 in
theorem idx60 (g:Nat) (lb:Array Value) (eg:∀ args w,(callFunc g args).run Try.prog w = .ok (.enter g args) w) (f:ByteArray → Option Bool) (A:Option Addr) (c:Nat) (l:List ByteArray) (r:Int) (w:World) (hr:Kd.C Kd.string w A l.length l) (hc:l.length ≤ c)
    (hp:∀ (W:World) (x:ByteArray) (b:Bool),Below w.heap.size w W → f x = some b → Calls Try.prog g (#[.string x] ++ lb) W fun e w'=>e = .returned (.bool b) ∧ Below W.heap.size W w')
    (h:idxO f 0 l = some r) :
    Calls Try.prog 60 #[.slice A l.length c,.func (.func g) #[] lb] w fun e w'=>e = .returned (.int .i64 r) ∧ Below w.heap.size w w':=by
  have HR:=Aside0.mk hr
  have HP:=Aside0.mk hp
  have HL:=Aside0.mk hr.2.1
  have H:=Aside0.mk h
  clear hr hp h hc
  go_enter Try.func60,Try.ntmps60
  go_wp2
  go_loopg [5,8] (l.length + 1) (fun kq _ v8 w'=>∃ kk:Nat,v8 = .int .i64 kk ∧ Aside0 (kk ≤ l.length ∧ l.length + 1 ≤ kq + kk) ∧ Aside0 (idxO f kk (l.drop kk) = some r) ∧ Aside0 (Below w.heap.size w w'))
  case atStart=>exact ⟨0,rfl,⟨Nat.zero_le _,by omega⟩,⟨by simpa using H.out⟩,⟨Below.refl _ _⟩⟩
  case round =>
    obtain ⟨kk,rfl,HK,HI,HB⟩:=hrel
    have hkk:=HK.out.1
    by_cases hlt:kk < l.length
    · have hd:l.drop kk = l[kk] :: l.drop (kk + 1):=List.drop_eq_getElem_cons hlt
      have hi:=HI.out
      rw [hd] at hi
      simp only [idxO] at hi
      obtain ⟨b,hb,hi⟩:=Option.bind_eq_some_iff.1 hi
      have HW:=Aside0.mk (show wrap64 ((kk:Int) + 1) = ((kk + 1:Nat):Int) from by have:=HL.out;unfold wrap64;omega)
      have p:0 ≤ (kk:Int):=by omega
      have q:(kk:Int) < (l.length:Int):=by omega
      have q1:decide (kk < l.length) = true:=decide_eq_true hlt
      have q2:decide ((kk:Int) < (l.length:Int)) = true:=decide_eq_true q
      obtain ⟨ad,e1,hx0⟩:=Kd.at_string HR.out (kk:Int) p q
      cases e1
      have hrd:rdOf ByteArray.empty l (kk:Int) = l[kk]:=by unfold rdOf;simp [List.getD_eq_getElem?_getD,List.getElem?_eq_getElem hlt]
      rw [hrd] at hx0
      clear hrd
      replace hx0:=(HB.out.cell (World.block_lt_of_cell? w _ hx0)).trans hx0
      rw [Int.toNat_natCast] at hx0
      generalize hy:l[kk] = y at hx0 hb
      clear hy hd
      have HC:=Aside0.mk (HP.out wr y b HB.out hb)
      clear HI hkk
      cases b with
      | true =>
        have HE:=Aside0.mk (Option.some.inj hi)
        clear hi hb
        go_wp2_with fail
        refine HC.out.mono ?_
        rintro e w' ⟨rfl,hb'⟩
        have HB2:=Aside0.mk (below_step HB.out hb')
        clear HB hb' HC hx0
        have HB:=HB2
        clear HB2
        go_wp2_with fail
        go_ret
        exact ⟨by rw [← HE.out];rfl,HB.out⟩
      | false =>
        have HE:=Aside0.mk hi
        clear hi hb
        go_wp2_with fail
        refine HC.out.mono ?_
        rintro e w' ⟨rfl,hb'⟩
        have HB2:=Aside0.mk (below_step HB.out hb')
        clear HB hb' HC hx0
        have HB:=HB2
        clear HB2
        go_wp2_with fail
        go_roundg (l.length - kk)
        case measure=>have:=HK.out;omega
        case rel=>exact ⟨kk + 1,by rw [HW.out],⟨by have:=HK.out;omega⟩,⟨by rw [show ((kk + 1:Nat):Int) = (kk:Int) + 1 from by omega];simpa using HE.out⟩,HB⟩
    · have HE:=Aside0.mk (show -1 = r from by have:=HI.out;rw [List.drop_eq_nil_of_le (by omega)] at this;simp [idxO] at this;exact this)
      have q1:decide (kk < l.length) = false:=decide_eq_false hlt
      have q2:decide ((kk:Int) < (l.length:Int)) = false:=decide_eq_false (by omega)
      clear HI hkk
      go_wp2
      go_ret
      exact ⟨by rw [← HE.out];rfl,HB.out⟩

/-! ### slices_ContainsFunc: function 50 -/
set_option maxHeartbeats 2000000 in
theorem any50 (g:Nat) (lb:Array Value) (eg:∀ args w,(callFunc g args).run Try.prog w = .ok (.enter g args) w) (f:ByteArray → Option Bool) (A:Option Addr) (c:Nat) (l:List ByteArray) (r:Bool) (w:World) (hr:Kd.C Kd.string w A l.length l) (hc:l.length ≤ c)
    (hp:∀ (W:World) (x:ByteArray) (b:Bool),Below w.heap.size w W → f x = some b → Calls Try.prog g (#[.string x] ++ lb) W fun e w'=>e = .returned (.bool b) ∧ Below W.heap.size W w')
    (h:anyO f l = some r) :
    Calls Try.prog 50 #[.slice A l.length c,.func (.func g) #[] lb] w fun e w'=>e = .returned (.bool r) ∧ Below w.heap.size w w':=by
  obtain ⟨j,hj,hr2⟩:=idxO_any f l 0 r (Int.le_refl _) h
  have HR:=Aside0.mk hr2
  have HC:=Aside0.mk (fun W hW=>idx60 g lb eg f A c l j W (Kd.C_below hr hW) hc (fun W' x b h1=>hp W' x b (hW.trans (h1.mono hW.size))) hj)
  clear hr hp h hc hj hr2 eg
  go_enter Try.func50,Try.ntmps50
  go_wp2_with fail
  refine (HC.out _ (Below.refl _ _)).mono ?_
  rintro e w' ⟨rfl,hb⟩
  have HB:=Aside0.mk hb
  clear hb HC
  go_wp2
  go_ret
  exact ⟨by rw [HR.out];rfl,HB.out⟩

/-! ### impl_GoodDisk_1_any: function 1000000 -/
def impl_GoodDisk_1_any.f (l0:List ByteArray):Option (Bool):=anyO (fun x=>impl_GoodDisk_1.f x) l0
theorem impl_GoodDisk_1_any.calls (A0:Option Addr) (c0:Nat) (l0:List ByteArray) (r:Bool) (w:World) (hr0:Kd.C Kd.string w A0 l0.length l0) (hc0:l0.length ≤ c0) (h:impl_GoodDisk_1_any.f l0 = some r) :
    Calls Try.prog 50 #[.slice A0 l0.length c0,.func (.func 51) #[] #[]] w fun e w'=>e = .returned (.bool r) ∧ Below w.heap.size w w':=by
  exact any50 51 #[] (enters_of Try.func51 (by kernel_rfl) rfl) (fun x=>impl_GoodDisk_1.f x) A0 c0 l0 r w hr0 hc0 (fun W x b hW hx=>(impl_GoodDisk_1.calls x b W    hx).mono fun _ _ h_=>⟨h_.1,h_.2.below⟩) h

/-! ### impl_GoodDisk: function 38 -/
def impl_GoodDisk.f (k:Nat) (l0_0:List ByteArray) (l0_1:List ByteArray):Option (Bool):=(impl_Disk_size.f l0_0 l0_1).bind fun t265=>(if t265 ≤ 400 then ((slices_Concat_string_string.f k (([l0_0,l0_1]:List (List ByteArray)))).bind fun t269=>((impl_GoodDisk_1_any.f t269).bind fun t272=>(some (!t272)))) else (some false))
theorem impl_GoodDisk.mono:∀ a0 a1 k,LeO (impl_GoodDisk.f k a0 a1) (impl_GoodDisk.f (k + 1) a0 a1):=by
 intro a0 a1 k
 unfold impl_GoodDisk.f
 repeat' first
   | (with_reducible exact slices_Concat_string_string.mono _ _)
   | (with_reducible exact LeO.refl _)
   | (with_reducible exact LeO.none _)
   | (with_reducible refine LeO.ite ?_ ?_)
   | (with_reducible refine LeO.bind ?_ (fun _=>?_))
   | exact slices_Concat_string_string.mono _ _
   | exact LeO.none _
   | refine LeO.ite ?_ ?_
   | refine LeO.bind ?_ (fun _=>?_)
set_option maxHeartbeats 8000000 in
set_option maxRecDepth 100000 in
theorem impl_GoodDisk.calls (k:Nat) (P0_0_:Nat → Prop) (A0_0:Option Addr) (c0_0:Nat) (l0_0:List ByteArray) (P0_1_:Nat → Prop) (A0_1:Option Addr) (c0_1:Nat) (l0_1:List ByteArray) (r:Bool) (w:World) (hs0_0:Kd.V Kd.string 9 w w.heap.size (fun k_=>P0_0_ k_) (.slice A0_0 l0_0.length c0_0) l0_0) (hs0_1:Kd.V Kd.string 9 w w.heap.size (fun k_=>P0_1_ k_) (.slice A0_1 l0_1.length c0_1) l0_1) (h:impl_GoodDisk.f k l0_0 l0_1 = some r) :
  Calls Try.prog 38 #[.agg #[.slice A0_0 l0_0.length c0_0,.slice A0_1 l0_1.length c0_1]] w fun e w'=>e = .returned (.bool r) ∧ Below w.heap.size w w':=by
 have hu34:=Try.underlying34
 have HO0_0:=Aside0.mk (show Kd.V Kd.string 9 w w.heap.size (fun k_=>((P0_0_ k_ ∨ P0_1_ k_) ∨ w.heap.size ≤ k_)) (.slice A0_0 l0_0.length c0_0) l0_0 from Kd.V_mono hs0_0 (fun k_ hk=>.inl (.inl hk)))
 have HO0_1:=Aside0.mk (show Kd.V Kd.string 9 w w.heap.size (fun k_=>((P0_0_ k_ ∨ P0_1_ k_) ∨ w.heap.size ≤ k_)) (.slice A0_1 l0_1.length c0_1) l0_1 from Kd.V_mono hs0_1 (fun k_ hk=>.inl (.inr hk)))
 have HB:=Aside0.mk (Below.refl w.heap.size w)
 have H:((impl_Disk_size.f l0_0 l0_1).bind fun t265=>(if t265 ≤ 400 then ((slices_Concat_string_string.f k (([l0_0,l0_1]:List (List ByteArray)))).bind fun t269=>((impl_GoodDisk_1_any.f t269).bind fun t272=>(some (!t272)))) else (some false))) = some r:=h
 clear h
 replace H:=Option.bind_eq_some_iff.mp H
 obtain ⟨t265,A20,H⟩:=H
 replace H:(if t265 ≤ 400 then ((slices_Concat_string_string.f k (([l0_0,l0_1]:List (List ByteArray)))).bind fun t269=>((impl_GoodDisk_1_any.f t269).bind fun t272=>(some (!t272)))) else (some false)) = some r:=H
 have A2:=Aside0.mk A20
 clear A20
 by_cases c3:t265 ≤ 400
 ·rw [if_pos c3] at H
  have c3b0:decide (t265 ≤ 400) = true:=decide_eq_true c3
  clear c3
  obtain ⟨y266,hy266⟩:∃ y_:List (List ByteArray),y_ = (([l0_0,l0_1]:List (List ByteArray))):=⟨_,rfl⟩
  replace H:((slices_Concat_string_string.f k y266).bind fun t269=>((impl_GoodDisk_1_any.f t269).bind fun t272=>(some (!t272)))) = some r:=by first|(rw [hy266];with_reducible exact H)|(have H2_:=(Option.bind_some _ _).symm.trans H;rw [hy266];with_reducible exact H2_)|(have H2_:=(Option.bind_some _ _).symm.trans H;with_reducible exact H2_)|with_reducible exact H|(rw [hy266];exact H)|exact H
  have Ny266:=Aside0.mk hy266
  clear hy266
  replace H:=Option.bind_eq_some_iff.mp H
  obtain ⟨t269,A40,H⟩:=H
  replace H:((impl_GoodDisk_1_any.f t269).bind fun t272=>(some (!t272))) = some r:=H
  have A4:=Aside0.mk A40
  clear A40
  replace H:=Option.bind_eq_some_iff.mp H
  obtain ⟨t272,A50,H⟩:=H
  replace H:(some (!t272)) = some r:=H
  have A5:=Aside0.mk A50
  clear A50
  obtain rfl:=Option.some.inj H
  go_enter Try.func38,Try.ntmps38
  go_wp2_with (first|((with_reducible refine gate_dst (N:=1) rfl ?_);(try (refine gate_guard (by rfl) ?_;dsimp only));refine box_event ?hg (N:=1) ?hd (cs:=#[.slice A0_0 l0_0.length c0_0,.slice A0_1 l0_1.length c0_1]) (t:=34) ?hr ?_;(case hd=>rfl);(case hg=>rfl);(case hr=>first|(go_simp;done)|(go_simp;rfl));intro gb264 hg w6 hbox hb;have n0_:=Aside0.mk (Kd.V_below (Kd.V_elderB (by (with_reducible repeat (first|apply Kd.V_alloc|apply Kd.V_drewN|apply Kd.V_drew));exact HO0_0.out) gb264 (Nat.le_of_eq hg.symm)) hb);have n1_:=Aside0.mk (Kd.V_below (Kd.V_elderB (by (with_reducible repeat (first|apply Kd.V_alloc|apply Kd.V_drewN|apply Kd.V_drew));exact HO0_1.out) gb264 (Nat.le_of_eq hg.symm)) hb);have n2_:=Aside0.mk (below_step (by repeat (first|(with_reducible first|exact HB.out|apply below_alloc|apply pw_below_drewN|apply below_drew1)|exact HB.out)) hb);have n3_:=Aside0.mk (hbox);have n4_:=Aside0.mk ((by rw [hg];exact (below_size (by repeat (first|(with_reducible first|exact HB.out|apply below_alloc|apply pw_below_drewN|apply below_drew1)|exact HB.out))):w.heap.size ≤ gb264));have n5_:=Aside0.mk ((by rw [hg];exact (below_size (by repeat (first|(with_reducible first|exact HB.out|apply below_alloc|apply pw_below_drewN|apply below_drew1)|exact HB.out))):w.heap.size ≤ gb264));clear HO0_0;clear HO0_1;clear HB;have HO0_0:=n0_;have HO0_1:=n1_;have HB:=n2_;have BK264:=n3_;have GW264:=n4_;have GE264:=n5_;clear n0_ n1_ n2_ n3_ n4_ n5_;clear hb hbox hg;have hcz7_0:w6.cell? ⟨gb264,0,none⟩ = some (.slice A0_0 l0_0.length c0_0):=(blk_cell BK264.out 0).trans rfl;have hcz7_1:w6.cell? ⟨gb264,1,none⟩ = some (.slice A0_1 l0_1.length c0_1):=(blk_cell BK264.out 1).trans rfl;have hfz7_0:=blk_frozen BK264.out 0;have hfz7_1:=blk_frozen BK264.out 1)|((with_reducible refine gate_callee (f:=44) rfl ?_);refine goesL_ (some 4) rfl rfl Try.func44 (by kernel_rfl) rfl #[.agg #[.slice A0_0 l0_0.length c0_0,.slice A0_1 l0_1.length c0_1]] rfl (by (try simp only [List.map_toArray,List.map_cons,List.map_nil]);first|done|rfl|(simp only [List.length_drop,List.length_take];rfl)) ?_;(with_reducible refine (impl_Disk_size.calls _ _ l0_0 _ _ l0_1 t265 _ ?side1 ?side2 ?side3 ?side4 A2.out).mono ?_);(case side1=>repeat (first|exact (Kd.V_reads' HO0_0.out).2.2|(with_reducible refine Kd.C_alloc ?_ _)|(with_reducible refine Kd.C_drewN ?_ _)|(with_reducible refine Kd.C_drew ?_)));(case side2=>exact (Kd.V_reads' HO0_0.out).2.1);(case side3=>repeat (first|exact (Kd.V_reads' HO0_1.out).2.2|(with_reducible refine Kd.C_alloc ?_ _)|(with_reducible refine Kd.C_drewN ?_ _)|(with_reducible refine Kd.C_drew ?_)));(case side4=>exact (Kd.V_reads' HO0_1.out).2.1);rintro e w8 ⟨rfl,hb⟩;refine ⟨_,rfl,?_⟩;have n0_:=Aside0.mk (Kd.V_below (by (with_reducible repeat (first|apply Kd.V_alloc|apply Kd.V_drewN|apply Kd.V_drew));exact HO0_0.out) hb);have n1_:=Aside0.mk (Kd.V_below (by (with_reducible repeat (first|apply Kd.V_alloc|apply Kd.V_drewN|apply Kd.V_drew));exact HO0_1.out) hb);have n2_:=Aside0.mk (blk_below (g:=gb264) (o:=.cells #[.slice A0_0 l0_0.length c0_0,.slice A0_1 l0_1.length c0_1] 34 (0,0)) (by (with_reducible repeat (first|refine blk_drewN ?_ _|refine blk_drew ?_|refine blk_alloc ?_ _));exact BK264.out) hb);have n3_:=Aside0.mk (below_step (by repeat (first|(with_reducible first|exact HB.out|apply below_alloc|apply pw_below_drewN|apply below_drew1|refine below_set ?_ GE264.out)|exact HB.out)) hb);clear HO0_0;clear HO0_1;clear BK264;clear HB;have HO0_0:=n0_;have HO0_1:=n1_;have BK264:=n2_;have HB:=n3_;clear n0_ n1_ n2_ n3_;(try clear hb);(try clear hb2);(try clear hk);(try clear hi);have hcz9_0:w8.cell? ⟨gb264,0,none⟩ = some (.slice A0_0 l0_0.length c0_0):=(blk_cell BK264.out 0).trans rfl;have hcz9_1:w8.cell? ⟨gb264,1,none⟩ = some (.slice A0_1 l0_1.length c0_1):=(blk_cell BK264.out 1).trans rfl;have hfz9_0:=blk_frozen BK264.out 0;have hfz9_1:=blk_frozen BK264.out 1)|((with_reducible refine gate_dst (N:=11) rfl ?_);(try (refine gate_guard (by rfl) ?_;dsimp only));refine Kd.N_lit (Kd.slice 9 Kd.string) _ 28 ?hg (N':=11) ?hd (xs:=([l0_0,l0_1]:List (List ByteArray))) (inner:=[.slice A0_0 l0_0.length c0_0,.slice A0_1 l0_1.length c0_1]) (ok:=(fun k_=>((P0_0_ k_ ∨ P0_1_ k_) ∨ w.heap.size ≤ k_) ∧ k_ ≠ gb264)) (okp:=(fun k_=>((P0_0_ k_ ∨ P0_1_ k_) ∨ w.heap.size ≤ k_) ∧ k_ ≠ gb264)) ?hr ?hp (fun _ hk=>hk) ((show ∀ k_,w8.heap.size ≤ k_ → (fun k_=>((P0_0_ k_ ∨ P0_1_ k_) ∨ w.heap.size ≤ k_) ∧ k_ ≠ gb264) k_ from fun k_ hk=>⟨(.inr (Nat.le_trans (below_size (by repeat (first|(with_reducible first|exact HB.out|apply below_alloc|apply pw_below_drewN|apply below_drew1|refine below_set ?_ GE264.out)|exact HB.out))) hk)),Kd.freshB (g:=gb264) (o:=.cells #[.slice A0_0 l0_0.length c0_0,.slice A0_1 l0_1.length c0_1] 34 (0,0)) (by (with_reducible repeat (first|refine blk_drewN ?_ _|refine blk_drew ?_|refine blk_alloc ?_ _));exact BK264.out) k_ hk⟩) _ (Nat.le_refl _)) (Below.refl _ _) (Nat.le_refl _) (by simp) ?_;(case hd=>rfl);(case hg=>rfl);(case hr=>first|(go_simp;done)|(go_simp;rfl));(case hp=>exact (Reps.one (show Kd.FK (Kd.slice 9 Kd.string) _ _ l0_0 [.slice A0_0 l0_0.length c0_0] from (Kd.FK_slice_mk (Kd.V_reads' (Kd.V_mono (ok':=(fun k_=>((P0_0_ k_ ∨ P0_1_ k_) ∨ w.heap.size ≤ k_) ∧ k_ ≠ gb264)) (HO0_0.out) (fun k_ hk=>⟨hk.1,hk.2⟩))).2.1 (Kd.V_F (Kd.V_mono (ok':=(fun k_=>((P0_0_ k_ ∨ P0_1_ k_) ∨ w.heap.size ≤ k_) ∧ k_ ≠ gb264)) (HO0_0.out) (fun k_ hk=>⟨hk.1,hk.2⟩))))) (Reps.one (show Kd.FK (Kd.slice 9 Kd.string) _ _ l0_1 [.slice A0_1 l0_1.length c0_1] from (Kd.FK_slice_mk (Kd.V_reads' (Kd.V_mono (ok':=(fun k_=>((P0_0_ k_ ∨ P0_1_ k_) ∨ w.heap.size ≤ k_) ∧ k_ ≠ gb264)) (HO0_1.out) (fun k_ hk=>⟨hk.1,hk.2⟩))).2.1 (Kd.V_F (Kd.V_mono (ok':=(fun k_=>((P0_0_ k_ ∨ P0_1_ k_) ∨ w.heap.size ≤ k_) ∧ k_ ≠ gb264)) (HO0_1.out) (fun k_ hk=>⟨hk.1,hk.2⟩))))) (Reps.none _ _))));intro v267 w10 ho11 hb hg_ hnew_;clear hg_ hnew_;(first|rw [← Ny266.out] at ho11|(simp only [Int.reduceToNat] at ho11;rw [← Ny266.out] at ho11));have n0_:=Aside0.mk (Kd.V_elder' (by (with_reducible repeat (first|apply Kd.V_alloc|apply Kd.V_drewN|apply Kd.V_drew));exact HO0_0.out) (Kd.N_base ho11) hb);have n1_:=Aside0.mk (Kd.V_elder' (by (with_reducible repeat (first|apply Kd.V_alloc|apply Kd.V_drewN|apply Kd.V_drew));exact HO0_1.out) (Kd.N_base ho11) hb);have n2_:=Aside0.mk (Kd.N_lower ho11 (below_size (by repeat (first|(with_reducible first|exact HB.out|apply below_alloc|apply pw_below_drewN|apply below_drew1|refine below_set ?_ GE264.out)|exact HB.out))));have n3_:=Aside0.mk (blk_below (g:=gb264) (o:=.cells #[.slice A0_0 l0_0.length c0_0,.slice A0_1 l0_1.length c0_1] 34 (0,0)) (by (with_reducible repeat (first|refine blk_drewN ?_ _|refine blk_drew ?_|refine blk_alloc ?_ _));exact BK264.out) hb);have n4_:=Aside0.mk (below_step (by repeat (first|(with_reducible first|exact HB.out|apply below_alloc|apply pw_below_drewN|apply below_drew1|refine below_set ?_ GE264.out)|exact HB.out)) hb);clear HO0_0;clear HO0_1;clear BK264;clear HB;have HO0_0:=n0_;have HO0_1:=n1_;have HO268:=n2_;have BK264:=n3_;have HB:=n4_;clear n0_ n1_ n2_ n3_ n4_;clear hb ho11;obtain ⟨Ao12,co12,eo12⟩:=Kd.N_slice HO268.out;subst eo12)|(go_at_call 46;(with_reducible refine (slices_Concat_string_string.calls k _ _ y266 t269 _ ?side1 ?side2 A4.out).mono ?_);(case side1=>repeat (first|exact (Kd.N_reads' HO268.out).2.2|(with_reducible refine Kd.C_alloc ?_ _)|(with_reducible refine Kd.C_drewN ?_ _)|(with_reducible refine Kd.C_drew ?_)));(case side2=>exact (Kd.N_reads' HO268.out).2.1);rintro e w13 ⟨v270,rfl,ho0,hb⟩;have n0_:=Aside0.mk (Kd.V_elder' (by (with_reducible repeat (first|apply Kd.V_alloc|apply Kd.V_drewN|apply Kd.V_drew));exact HO0_0.out) (Kd.R_base ho0) hb);have n1_:=Aside0.mk (Kd.V_elder' (by (with_reducible repeat (first|apply Kd.V_alloc|apply Kd.V_drewN|apply Kd.V_drew));exact HO0_1.out) (Kd.R_base ho0) hb);have n2_:=Aside0.mk (Kd.N_elder' (by (with_reducible repeat (first|apply Kd.N_alloc|apply Kd.N_drewN|apply Kd.N_drew));exact HO268.out) (Kd.R_base ho0) hb);have n3_:=Aside0.mk (Kd.R_lower (Kd.R_newM (M:=fun k_=>(w.heap.size ≤ k_)) ho0 (below_size (by repeat (first|(with_reducible first|exact HB.out|apply below_alloc|apply pw_below_drewN|apply below_drew1|refine below_set ?_ GE264.out)|exact HB.out))) (fun k_ h_=>h_)) (below_size (by repeat (first|(with_reducible first|exact HB.out|apply below_alloc|apply pw_below_drewN|apply below_drew1|refine below_set ?_ GE264.out)|exact HB.out))));have n4_:=Aside0.mk (blk_below (g:=gb264) (o:=.cells #[.slice A0_0 l0_0.length c0_0,.slice A0_1 l0_1.length c0_1] 34 (0,0)) (by (with_reducible repeat (first|refine blk_drewN ?_ _|refine blk_drew ?_|refine blk_alloc ?_ _));exact BK264.out) hb);have n5_:=Aside0.mk (below_step (by repeat (first|(with_reducible first|exact HB.out|apply below_alloc|apply pw_below_drewN|apply below_drew1|refine below_set ?_ GE264.out)|exact HB.out)) hb);clear HO0_0;clear HO0_1;clear HO268;clear BK264;clear HB;have HO0_0:=n0_;have HO0_1:=n1_;have HO268:=n2_;have HO271:=n3_;have BK264:=n4_;have HB:=n5_;clear n0_ n1_ n2_ n3_ n4_ n5_;(try clear hb);(try clear hb2);(try clear hk);(try clear hi);(try clear ho0);obtain ⟨Ao14,co14,eo14⟩:=Kd.R_slice HO271.out;subst eo14)|(go_at_call 50;(with_reducible refine (impl_GoodDisk_1_any.calls _ _ t269 t272 _ ?side1 ?side2 A5.out).mono ?_);(case side1=>repeat (first|exact (Kd.R_reads' HO271.out).2.2|(with_reducible refine Kd.C_alloc ?_ _)|(with_reducible refine Kd.C_drewN ?_ _)|(with_reducible refine Kd.C_drew ?_)));(case side2=>exact (Kd.R_reads' HO271.out).2.1);rintro e w15 ⟨rfl,hb⟩;have n0_:=Aside0.mk (Kd.V_below (by (with_reducible repeat (first|apply Kd.V_alloc|apply Kd.V_drewN|apply Kd.V_drew));exact HO0_0.out) hb);have n1_:=Aside0.mk (Kd.V_below (by (with_reducible repeat (first|apply Kd.V_alloc|apply Kd.V_drewN|apply Kd.V_drew));exact HO0_1.out) hb);have n2_:=Aside0.mk (Kd.N_below (by (with_reducible repeat (first|apply Kd.N_alloc|apply Kd.N_drewN|apply Kd.N_drew));exact HO268.out) hb);have n3_:=Aside0.mk (Kd.R_below (by (with_reducible repeat (first|apply Kd.R_alloc|apply Kd.R_drewN|apply Kd.R_drew));exact HO271.out) hb);have n4_:=Aside0.mk (blk_below (g:=gb264) (o:=.cells #[.slice A0_0 l0_0.length c0_0,.slice A0_1 l0_1.length c0_1] 34 (0,0)) (by (with_reducible repeat (first|refine blk_drewN ?_ _|refine blk_drew ?_|refine blk_alloc ?_ _));exact BK264.out) hb);have n5_:=Aside0.mk (below_step (by repeat (first|(with_reducible first|exact HB.out|apply below_alloc|apply pw_below_drewN|apply below_drew1|refine below_set ?_ GE264.out)|exact HB.out)) hb);clear HO0_0;clear HO0_1;clear HO268;clear HO271;clear BK264;clear HB;have HO0_0:=n0_;have HO0_1:=n1_;have HO268:=n2_;have HO271:=n3_;have BK264:=n4_;have HB:=n5_;clear n0_ n1_ n2_ n3_ n4_ n5_;(try clear hb);(try clear hb2);(try clear hk);(try clear hi)))
  go_ret
  exact ⟨by first|rfl|(simp [errW_none,errW_some] <;> rfl)|(simp [*,errW_none,errW_some] <;> rfl),by repeat (first|(with_reducible first|exact HB.out|apply below_alloc|apply pw_below_drewN|apply below_drew1|refine below_set ?_ GE264.out)|exact HB.out)⟩
 ·rw [if_neg c3] at H
  have c3b0:decide (t265 ≤ 400) = false:=decide_eq_false c3
  clear c3
  obtain rfl:=Option.some.inj H
  go_enter Try.func38,Try.ntmps38
  go_wp2_with (first|((with_reducible refine gate_dst (N:=1) rfl ?_);(try (refine gate_guard (by rfl) ?_;dsimp only));refine box_event ?hg (N:=1) ?hd (cs:=#[.slice A0_0 l0_0.length c0_0,.slice A0_1 l0_1.length c0_1]) (t:=34) ?hr ?_;(case hd=>rfl);(case hg=>rfl);(case hr=>first|(go_simp;done)|(go_simp;rfl));intro gb264 hg w16 hbox hb;have n0_:=Aside0.mk (Kd.V_below (Kd.V_elderB (by (with_reducible repeat (first|apply Kd.V_alloc|apply Kd.V_drewN|apply Kd.V_drew));exact HO0_0.out) gb264 (Nat.le_of_eq hg.symm)) hb);have n1_:=Aside0.mk (Kd.V_below (Kd.V_elderB (by (with_reducible repeat (first|apply Kd.V_alloc|apply Kd.V_drewN|apply Kd.V_drew));exact HO0_1.out) gb264 (Nat.le_of_eq hg.symm)) hb);have n2_:=Aside0.mk (below_step (by repeat (first|(with_reducible first|exact HB.out|apply below_alloc|apply pw_below_drewN|apply below_drew1)|exact HB.out)) hb);have n3_:=Aside0.mk (hbox);have n4_:=Aside0.mk ((by rw [hg];exact (below_size (by repeat (first|(with_reducible first|exact HB.out|apply below_alloc|apply pw_below_drewN|apply below_drew1)|exact HB.out))):w.heap.size ≤ gb264));have n5_:=Aside0.mk ((by rw [hg];exact (below_size (by repeat (first|(with_reducible first|exact HB.out|apply below_alloc|apply pw_below_drewN|apply below_drew1)|exact HB.out))):w.heap.size ≤ gb264));clear HO0_0;clear HO0_1;clear HB;have HO0_0:=n0_;have HO0_1:=n1_;have HB:=n2_;have BK264:=n3_;have GW264:=n4_;have GE264:=n5_;clear n0_ n1_ n2_ n3_ n4_ n5_;clear hb hbox hg;have hcz17_0:w16.cell? ⟨gb264,0,none⟩ = some (.slice A0_0 l0_0.length c0_0):=(blk_cell BK264.out 0).trans rfl;have hcz17_1:w16.cell? ⟨gb264,1,none⟩ = some (.slice A0_1 l0_1.length c0_1):=(blk_cell BK264.out 1).trans rfl;have hfz17_0:=blk_frozen BK264.out 0;have hfz17_1:=blk_frozen BK264.out 1)|((with_reducible refine gate_callee (f:=44) rfl ?_);refine goesL_ (some 4) rfl rfl Try.func44 (by kernel_rfl) rfl #[.agg #[.slice A0_0 l0_0.length c0_0,.slice A0_1 l0_1.length c0_1]] rfl (by (try simp only [List.map_toArray,List.map_cons,List.map_nil]);first|done|rfl|(simp only [List.length_drop,List.length_take];rfl)) ?_;(with_reducible refine (impl_Disk_size.calls _ _ l0_0 _ _ l0_1 t265 _ ?side1 ?side2 ?side3 ?side4 A2.out).mono ?_);(case side1=>repeat (first|exact (Kd.V_reads' HO0_0.out).2.2|(with_reducible refine Kd.C_alloc ?_ _)|(with_reducible refine Kd.C_drewN ?_ _)|(with_reducible refine Kd.C_drew ?_)));(case side2=>exact (Kd.V_reads' HO0_0.out).2.1);(case side3=>repeat (first|exact (Kd.V_reads' HO0_1.out).2.2|(with_reducible refine Kd.C_alloc ?_ _)|(with_reducible refine Kd.C_drewN ?_ _)|(with_reducible refine Kd.C_drew ?_)));(case side4=>exact (Kd.V_reads' HO0_1.out).2.1);rintro e w18 ⟨rfl,hb⟩;refine ⟨_,rfl,?_⟩;have n0_:=Aside0.mk (Kd.V_below (by (with_reducible repeat (first|apply Kd.V_alloc|apply Kd.V_drewN|apply Kd.V_drew));exact HO0_0.out) hb);have n1_:=Aside0.mk (Kd.V_below (by (with_reducible repeat (first|apply Kd.V_alloc|apply Kd.V_drewN|apply Kd.V_drew));exact HO0_1.out) hb);have n2_:=Aside0.mk (blk_below (g:=gb264) (o:=.cells #[.slice A0_0 l0_0.length c0_0,.slice A0_1 l0_1.length c0_1] 34 (0,0)) (by (with_reducible repeat (first|refine blk_drewN ?_ _|refine blk_drew ?_|refine blk_alloc ?_ _));exact BK264.out) hb);have n3_:=Aside0.mk (below_step (by repeat (first|(with_reducible first|exact HB.out|apply below_alloc|apply pw_below_drewN|apply below_drew1|refine below_set ?_ GE264.out)|exact HB.out)) hb);clear HO0_0;clear HO0_1;clear BK264;clear HB;have HO0_0:=n0_;have HO0_1:=n1_;have BK264:=n2_;have HB:=n3_;clear n0_ n1_ n2_ n3_;(try clear hb);(try clear hb2);(try clear hk);(try clear hi)))
  go_ret
  exact ⟨by first|rfl|(simp [errW_none,errW_some] <;> rfl)|(simp [*,errW_none,errW_some] <;> rfl),by repeat (first|(with_reducible first|exact HB.out|apply below_alloc|apply pw_below_drewN|apply below_drew1|refine below_set ?_ GE264.out)|exact HB.out)⟩

/-! ### impl_isNo: function 31 -/
def impl_isNo.f (a0:Int):Option (Bool):=if a0 ≥ 0 then (some (decide (a0 < 400))) else (some false)
set_option maxHeartbeats 8000000 in
set_option maxRecDepth 100000 in
theorem impl_isNo.calls (a0:Int) (r:Bool) (w:World) (h:impl_isNo.f a0 = some r) :
  Calls Try.prog 31 #[.int .i64 a0] w fun e w'=>e = .returned (.bool r) ∧ Drawn0 w w':=by
 have H:(if a0 ≥ 0 then (some (decide (a0 < 400))) else (some false)) = some r:=h
 clear h
 by_cases c2:a0 ≥ 0
 ·rw [if_pos c2] at H
  have c2b0:decide (0 ≤ a0) = true:=decide_eq_true c2
  clear c2
  obtain rfl:=Option.some.inj H
  go_enter Try.func31,Try.ntmps31
  go_wp2
  go_ret
  exact ⟨by first|rfl|(simp;done)|(simp [*];done),by repeat (first|exact Drawn0.refl _|apply Drawn0.step)⟩
 ·rw [if_neg c2] at H
  have c2b0:decide (0 ≤ a0) = false:=decide_eq_false c2
  clear c2
  obtain rfl:=Option.some.inj H
  go_enter Try.func31,Try.ntmps31
  go_wp2
  go_ret
  exact ⟨by first|rfl|(simp;done)|(simp [*];done),by repeat (first|exact Drawn0.refl _|apply Drawn0.step)⟩

/-! ### impl_ReadSector: function 12 -/
def impl_ReadSector.j0:Nat → Int → ByteArray → Bool → Option (ByteArray × Bool × Bool)
 | 0,_,_,_=>none
 | k + 1,x0,x1,x17=>if x17 = true then (some ((⟨#[]⟩:ByteArray),false,false)) else (if 2 < (x1.size:Int) then (if (Int.tmod (wrap64 (bt x1 2)) 128) > 10 then (some ((⟨#[]⟩:ByteArray),false,false)) else (if 3 ≤ (wrap64 (3 + (Int.tmod (wrap64 (bt x1 2)) 128))) then (if (wrap64 (3 + (Int.tmod (wrap64 (bt x1 2)) 128))) ≤ (x1.size:Int) then ((impl_sector.f k x0 (decide ((wrap64 (bt x1 2)) ≥ 128)) (x1.extract 3 ((wrap64 (3 + (Int.tmod (wrap64 (bt x1 2)) 128))):Int).toNat)).bind fun t274=>(if t274.toList = x1.toList then (some (x1.extract 3 ((wrap64 (3 + (Int.tmod (wrap64 (bt x1 2)) 128))):Int).toNat,decide ((wrap64 (bt x1 2)) ≥ 128),true)) else (some ((⟨#[]⟩:ByteArray),false,false)))) else (none)) else (none))) else (none))
def impl_ReadSector.f (k:Nat) (a0:Int) (a1:ByteArray):Option (ByteArray × Bool × Bool):=(impl_isNo.f a0).bind fun t273=>(if t273 = true then (impl_ReadSector.j0 k a0 a1 ((a1.size:Int) != 16)) else (impl_ReadSector.j0 k a0 a1 true))
theorem impl_ReadSector.mono_l:∀ k,(∀ y0 y1 y2,LeO (impl_ReadSector.j0 k y0 y1 y2) (impl_ReadSector.j0 (k + 1) y0 y1 y2))
 | 0=>fun _ _ _ r h=>by simp [impl_ReadSector.j0] at h
 | k + 1=>by
  have ih0:=impl_ReadSector.mono_l k
  ·intro y0 y1 y2
   unfold impl_ReadSector.j0
   repeat' first
   | (with_reducible exact ih0 _ _ _)
   | (with_reducible exact impl_sector.mono _ _ _ _)
   | (with_reducible exact LeO.refl _)
   | (with_reducible exact LeO.none _)
   | (with_reducible refine LeO.ite ?_ ?_)
   | (with_reducible refine LeO.bind ?_ (fun _=>?_))
   | exact ih0 _ _ _
   | exact impl_sector.mono _ _ _ _
   | exact LeO.none _
   | refine LeO.ite ?_ ?_
   | refine LeO.bind ?_ (fun _=>?_)
theorem impl_ReadSector.mono:∀ a0 a1 k,LeO (impl_ReadSector.f k a0 a1) (impl_ReadSector.f (k + 1) a0 a1):=by
 intro a0 a1 k
 have ih0:=impl_ReadSector.mono_l k
 unfold impl_ReadSector.f
 repeat' first
   | (with_reducible exact ih0 _ _ _)
   | (with_reducible exact impl_sector.mono _ _ _ _)
   | (with_reducible exact LeO.refl _)
   | (with_reducible exact LeO.none _)
   | (with_reducible refine LeO.ite ?_ ?_)
   | (with_reducible refine LeO.bind ?_ (fun _=>?_))
   | exact ih0 _ _ _
   | exact impl_sector.mono _ _ _ _
   | exact LeO.none _
   | refine LeO.ite ?_ ?_
   | refine LeO.bind ?_ (fun _=>?_)
set_option maxHeartbeats 8000000 in
set_option maxRecDepth 100000 in
theorem impl_ReadSector.calls (k:Nat) (a0:Int) (a1:ByteArray) (r1:ByteArray) (r2:Bool) (r3:Bool) (w:World) (h:impl_ReadSector.f k a0 a1 = some (r1,r2,r3)) :
  Calls Try.prog 12 #[.int .i64 a0,.string a1] w fun e w'=>e = .returned (.tuple #[.string r1,.bool r2,.bool r3]) ∧ Below w.heap.size w w':=by
 have HB:=Aside0.mk (Below.refl w.heap.size w)
 have H:((impl_isNo.f a0).bind fun t273=>(if t273 = true then (impl_ReadSector.j0 k a0 a1 ((a1.size:Int) != 16)) else (impl_ReadSector.j0 k a0 a1 true))) = some (r1,r2,r3):=h
 clear h
 have HC3:=Aside0.mk H
 clear H
 go_enter Try.func12,Try.ntmps12
 go_upto_region 1 with (fail)
 go_cut [17] (fun v17 wc=>∃ (kq:Nat) (x17_2:Bool),v17 = .bool x17_2 ∧ Aside0 (impl_ReadSector.j0 kq a0 a1 x17_2 = some (r1,r2,r3)) ∧ Aside0 (kq ≤ k) ∧ Aside0 (Below w.heap.size w wc))
 case first =>
  have H:=HC3.out
  clear HC3
  replace H:=Option.bind_eq_some_iff.mp H
  obtain ⟨t273,A40,H⟩:=H
  replace H:(if t273 = true then (impl_ReadSector.j0 k a0 a1 ((a1.size:Int) != 16)) else (impl_ReadSector.j0 k a0 a1 true)) = some (r1,r2,r3):=H
  have A4:=Aside0.mk A40
  clear A40
  by_cases c5:t273 = true
  ·subst c5
   have H1:(impl_ReadSector.j0 k a0 a1 ((a1.size:Int) != 16)) = some (r1,r2,r3):=by rw [if_pos rfl] at H;exact H
   clear H
   have H:=H1
   clear H1
   have H':=Aside0.mk H
   clear H
   go_wp2_with (first|((with_reducible refine gate_callee (f:=31) rfl ?_);refine goesL_ (some 11) rfl rfl Try.func31 (by kernel_rfl) rfl #[.int .i64 a0] rfl (by (try simp only [List.map_toArray,List.map_cons,List.map_nil]);first|done|rfl|(simp only [List.length_drop,List.length_take];rfl)) ?_;(with_reducible refine (impl_isNo.calls a0 true _ A4.out).mono ?_);rintro e w' ⟨rfl,⟨nd,rfl⟩⟩;refine ⟨_,rfl,?_⟩))
   go_meet
   case rel=>exact ⟨_,(((a1.size:Int) != 16)),(by first|rfl|(simp;done)|(simp [*];done)),H',⟨by first|omega|exact Nat.le_refl _⟩,⟨by repeat (first|(with_reducible first|exact HB.out|apply below_alloc|apply pw_below_drewN|apply below_drew1)|exact HB.out)⟩⟩
  ·replace c5:=Bool.eq_false_iff.mpr c5
   subst c5
   have H1:(impl_ReadSector.j0 k a0 a1 true) = some (r1,r2,r3):=by rw [if_neg (show ¬ (false = true) by decide)] at H;exact H
   clear H
   have H:=H1
   clear H1
   have H':=Aside0.mk H
   clear H
   go_wp2_with (first|((with_reducible refine gate_callee (f:=31) rfl ?_);refine goesL_ (some 11) rfl rfl Try.func31 (by kernel_rfl) rfl #[.int .i64 a0] rfl (by (try simp only [List.map_toArray,List.map_cons,List.map_nil]);first|done|rfl|(simp only [List.length_drop,List.length_take];rfl)) ?_;(with_reducible refine (impl_isNo.calls a0 false _ A4.out).mono ?_);rintro e w' ⟨rfl,⟨nd,rfl⟩⟩;refine ⟨_,rfl,?_⟩))
   go_meet
   case rel=>exact ⟨_,(true),(by first|rfl|(simp;done)|(simp [*];done)),H',⟨by first|omega|exact Nat.le_refl _⟩,⟨by repeat (first|(with_reducible first|exact HB.out|apply below_alloc|apply pw_below_drewN|apply below_drew1)|exact HB.out)⟩⟩
 case rest =>
  clear HC3
  try clear c1
  try clear p2
  try clear c3
  try clear c5
  obtain ⟨kq,x17_2,rfl,HA,HJ2,HB⟩:=hcut
  cases kq with
  | zero=>exact absurd HA.out (by simp [impl_ReadSector.j0])
  | succ kj2 =>
   have H:=HA.out
   clear HA
   simp only [impl_ReadSector.j0] at H
   by_cases c6:x17_2 = true
   ·subst c6
    have H1:(some ((⟨#[]⟩:ByteArray),false,false)) = some (r1,r2,r3):=by rw [if_pos rfl] at H;exact H
    clear H
    have H:=H1
    clear H1
    simp only [Option.some.injEq,Prod.mk.injEq] at H
    obtain ⟨rfl,rfl,rfl⟩:=H
    go_wp2
    go_ret3
    exact ⟨by first|rfl|(simp [errW_none,errW_some] <;> rfl)|(simp [*,errW_none,errW_some] <;> rfl),by repeat (first|(with_reducible first|exact HB.out|apply below_alloc|apply pw_below_drewN|apply below_drew1)|exact HB.out)⟩
   ·replace c6:=Bool.eq_false_iff.mpr c6
    subst c6
    have H1:(if 2 < (a1.size:Int) then (if (Int.tmod (wrap64 (bt a1 2)) 128) > 10 then (some ((⟨#[]⟩:ByteArray),false,false)) else (if 3 ≤ (wrap64 (3 + (Int.tmod (wrap64 (bt a1 2)) 128))) then (if (wrap64 (3 + (Int.tmod (wrap64 (bt a1 2)) 128))) ≤ (a1.size:Int) then ((impl_sector.f kj2 a0 (decide ((wrap64 (bt a1 2)) ≥ 128)) (a1.extract 3 ((wrap64 (3 + (Int.tmod (wrap64 (bt a1 2)) 128))):Int).toNat)).bind fun t274=>(if t274.toList = a1.toList then (some (a1.extract 3 ((wrap64 (3 + (Int.tmod (wrap64 (bt a1 2)) 128))):Int).toNat,decide ((wrap64 (bt a1 2)) ≥ 128),true)) else (some ((⟨#[]⟩:ByteArray),false,false)))) else (none)) else (none))) else (none)) = some (r1,r2,r3):=by rw [if_neg (show ¬ (false = true) by decide)] at H;exact H
    clear H
    have H:=H1
    clear H1
    by_cases c7:2 < (a1.size:Int)
    ·rw [if_pos c7] at H
     have c7b0:decide (2 < (a1.size:Int)) = true:=decide_eq_true c7
     have c7b1:decide (2 < a1.size) = true:=decide_eq_true (by omega)
     clear c7
     by_cases c9:(Int.tmod (wrap64 (bt a1 2)) 128) > 10
     ·rw [if_pos c9] at H
      have c9b0:decide (10 < (Int.tmod (wrap64 (bt a1 2)) 128)) = true:=decide_eq_true c9
      clear c9
      simp only [Option.some.injEq,Prod.mk.injEq] at H
      obtain ⟨rfl,rfl,rfl⟩:=H
      have p8:0 ≤ (2:Int):=(by omega)
      have q8:2 < a1.size:=(by have:(2:Int) < (a1.size:Int):=of_decide_eq_true (by first|(with_reducible assumption)|assumption);omega)
      have hx8:∀ h:2 < a1.size,((a1[2]'h).toNat:Int) = bt a1 2:=bt_at a1 2
      clear p8
      have qi8:(2 < (a1.size:Int)) = True:=eq_true (of_decide_eq_true (by first|(with_reducible assumption)|assumption))
      replace q8:=eq_true q8
      go_wp2
      go_ret3
      exact ⟨by first|rfl|(simp [errW_none,errW_some] <;> rfl)|(simp [*,errW_none,errW_some] <;> rfl),by repeat (first|(with_reducible first|exact HB.out|apply below_alloc|apply pw_below_drewN|apply below_drew1)|exact HB.out)⟩
     ·rw [if_neg c9] at H
      have c9b0:decide (10 < (Int.tmod (wrap64 (bt a1 2)) 128)) = false:=decide_eq_false c9
      clear c9
      by_cases c10:3 ≤ (wrap64 (3 + (Int.tmod (wrap64 (bt a1 2)) 128)))
      ·rw [if_pos c10] at H
       have c10b0:=eq_true c10
       have c10b1:decide (3 ≤ (wrap64 (3 + (Int.tmod (wrap64 (bt a1 2)) 128)))) = true:=decide_eq_true c10
       by_cases c11:(wrap64 (3 + (Int.tmod (wrap64 (bt a1 2)) 128))) ≤ (a1.size:Int)
       ·rw [if_pos c11] at H
        have c11b0:=eq_true c11
        have c11b1:decide ((wrap64 (3 + (Int.tmod (wrap64 (bt a1 2)) 128))) ≤ (a1.size:Int)) = true:=decide_eq_true c11
        replace H:=Option.bind_eq_some_iff.mp H
        obtain ⟨t274,A120,H⟩:=H
        replace H:(if t274.toList = a1.toList then (some (a1.extract 3 ((wrap64 (3 + (Int.tmod (wrap64 (bt a1 2)) 128))):Int).toNat,decide ((wrap64 (bt a1 2)) ≥ 128),true)) else (some ((⟨#[]⟩:ByteArray),false,false))) = some (r1,r2,r3):=H
        have A12:=Aside0.mk A120
        clear A120
        by_cases c13:t274.toList = a1.toList
        ·rw [if_pos c13] at H
         have c13b0:(t274.toList == a1.toList) = true:=beq_iff_eq.mpr c13
         have c13b1:(t274.toList != a1.toList) = false:=bne_eq_false_iff_eq.mpr c13
         clear c13
         simp only [Option.some.injEq,Prod.mk.injEq] at H
         obtain ⟨rfl,rfl,rfl⟩:=H
         have p8:0 ≤ (2:Int):=(by omega)
         have q8:2 < a1.size:=(by have:(2:Int) < (a1.size:Int):=of_decide_eq_true (by first|(with_reducible assumption)|assumption);omega)
         have hx8:∀ h:2 < a1.size,((a1[2]'h).toNat:Int) = bt a1 2:=bt_at a1 2
         clear p8
         have qi8:(2 < (a1.size:Int)) = True:=eq_true (of_decide_eq_true (by first|(with_reducible assumption)|assumption))
         replace q8:=eq_true q8
         go_wp2_with (first|((with_reducible refine gate_callee (f:=32) rfl ?_);refine goesL_ (some 34) rfl rfl Try.func32 (by kernel_rfl) rfl #[.int .i64 a0,.bool (decide ((wrap64 (bt a1 2)) ≥ 128)),.string (a1.extract 3 ((wrap64 (3 + (Int.tmod (wrap64 (bt a1 2)) 128))):Int).toNat)] rfl (by (try simp only [List.map_toArray,List.map_cons,List.map_nil]);first|done|rfl|(simp only [List.length_drop,List.length_take];rfl)) ?_;(with_reducible refine (impl_sector.calls kj2 a0 (decide ((wrap64 (bt a1 2)) ≥ 128)) (a1.extract 3 ((wrap64 (3 + (Int.tmod (wrap64 (bt a1 2)) 128))):Int).toNat) t274 _ A12.out).mono ?_);rintro e w14 ⟨rfl,hb⟩;refine ⟨_,rfl,?_⟩;have n0_:=Aside0.mk (below_step (by repeat (first|(with_reducible first|exact HB.out|apply below_alloc|apply pw_below_drewN|apply below_drew1)|exact HB.out)) hb);clear HB;have HB:=n0_;clear n0_;(try clear hb);(try clear hb2);(try clear hk);(try clear hi)))
         go_ret3
         exact ⟨by first|rfl|(simp [errW_none,errW_some] <;> rfl)|(simp [*,errW_none,errW_some] <;> rfl),by repeat (first|(with_reducible first|exact HB.out|apply below_alloc|apply pw_below_drewN|apply below_drew1)|exact HB.out)⟩
        ·rw [if_neg c13] at H
         have c13b0:(t274.toList == a1.toList) = false:=beq_eq_false_iff_ne.mpr c13
         have c13b1:(t274.toList != a1.toList) = true:=bne_iff_ne.mpr c13
         simp only [Option.some.injEq,Prod.mk.injEq] at H
         obtain ⟨rfl,rfl,rfl⟩:=H
         have p8:0 ≤ (2:Int):=(by omega)
         have q8:2 < a1.size:=(by have:(2:Int) < (a1.size:Int):=of_decide_eq_true (by first|(with_reducible assumption)|assumption);omega)
         have hx8:∀ h:2 < a1.size,((a1[2]'h).toNat:Int) = bt a1 2:=bt_at a1 2
         clear p8
         have qi8:(2 < (a1.size:Int)) = True:=eq_true (of_decide_eq_true (by first|(with_reducible assumption)|assumption))
         replace q8:=eq_true q8
         go_wp2_with (first|((with_reducible refine gate_callee (f:=32) rfl ?_);refine goesL_ (some 34) rfl rfl Try.func32 (by kernel_rfl) rfl #[.int .i64 a0,.bool (decide ((wrap64 (bt a1 2)) ≥ 128)),.string (a1.extract 3 ((wrap64 (3 + (Int.tmod (wrap64 (bt a1 2)) 128))):Int).toNat)] rfl (by (try simp only [List.map_toArray,List.map_cons,List.map_nil]);first|done|rfl|(simp only [List.length_drop,List.length_take];rfl)) ?_;(with_reducible refine (impl_sector.calls kj2 a0 (decide ((wrap64 (bt a1 2)) ≥ 128)) (a1.extract 3 ((wrap64 (3 + (Int.tmod (wrap64 (bt a1 2)) 128))):Int).toNat) t274 _ A12.out).mono ?_);rintro e w15 ⟨rfl,hb⟩;refine ⟨_,rfl,?_⟩;have n0_:=Aside0.mk (below_step (by repeat (first|(with_reducible first|exact HB.out|apply below_alloc|apply pw_below_drewN|apply below_drew1)|exact HB.out)) hb);clear HB;have HB:=n0_;clear n0_;(try clear hb);(try clear hb2);(try clear hk);(try clear hi)))
         go_ret3
         exact ⟨by first|rfl|(simp [errW_none,errW_some] <;> rfl)|(simp [*,errW_none,errW_some] <;> rfl),by repeat (first|(with_reducible first|exact HB.out|apply below_alloc|apply pw_below_drewN|apply below_drew1)|exact HB.out)⟩
       ·rw [if_neg c11] at H
        exact absurd H (by simp)
      ·rw [if_neg c10] at H
       exact absurd H (by simp)
    ·rw [if_neg c7] at H
     exact absurd H (by simp)

/-! ### impl_Disk_texts: function 39 -/
def impl_Disk_texts.l0:Nat → List ByteArray → ByteArray → Int → List ByteArray → Int → Int → Option (List ByteArray × Int)
 | 0,_,_,_,_,_,_=>none
 | k + 1,x4,x5,x6,x17,x18,x19=>if x19 < x18 then (if 0 ≤ x19 then (if x19 < (x17.length:Int) then ((impl_ReadSector.f k x19 (rdOf ByteArray.empty x17 x19)).bind fun bt283=>(if bt283.2.2 = true then (if x5.size + bt283.1.size ≤ 9223372036854775807 then (if bt283.2.1 = true then (if x4.length < 8796093022208 then (impl_Disk_texts.l0 k (x4 ++ [x5 ++ bt283.1]) (⟨#[]⟩:ByteArray) (wrap64 (x19 + 1)) x17 x18 (wrap64 (x19 + 1))) else (none)) else (impl_Disk_texts.l0 k x4 (x5 ++ bt283.1) x6 x17 x18 (wrap64 (x19 + 1)))) else (none)) else (some (x4,x6)))) else (none)) else (none)) else (some (x4,x6))
def impl_Disk_texts.f (k:Nat) (l0_0:List ByteArray) (l0_1:List ByteArray):Option (List ByteArray × Int):=(slices_Concat_string_string.f k (([l0_0,l0_1]:List (List ByteArray)))).bind fun t279=>(impl_Disk_texts.l0 k ([]:List ByteArray) (⟨#[]⟩:ByteArray) 0 t279 (t279.length:Int) 0)
theorem impl_Disk_texts.mono_l:∀ k,(∀ y0 y1 y2 y3 y4 y5,LeO (impl_Disk_texts.l0 k y0 y1 y2 y3 y4 y5) (impl_Disk_texts.l0 (k + 1) y0 y1 y2 y3 y4 y5))
 | 0=>fun _ _ _ _ _ _ r h=>by simp [impl_Disk_texts.l0] at h
 | k + 1=>by
  have ih0:=impl_Disk_texts.mono_l k
  ·intro y0 y1 y2 y3 y4 y5
   unfold impl_Disk_texts.l0
   repeat' first
   | (with_reducible exact ih0 _ _ _ _ _ _)
   | (with_reducible exact impl_ReadSector.mono _ _ _)
   | (with_reducible exact slices_Concat_string_string.mono _ _)
   | (with_reducible exact LeO.refl _)
   | (with_reducible exact LeO.none _)
   | (with_reducible refine LeO.ite ?_ ?_)
   | (with_reducible refine LeO.bind ?_ (fun _=>?_))
   | exact ih0 _ _ _ _ _ _
   | exact impl_ReadSector.mono _ _ _
   | exact slices_Concat_string_string.mono _ _
   | exact LeO.none _
   | refine LeO.ite ?_ ?_
   | refine LeO.bind ?_ (fun _=>?_)
theorem impl_Disk_texts.mono:∀ a0 a1 k,LeO (impl_Disk_texts.f k a0 a1) (impl_Disk_texts.f (k + 1) a0 a1):=by
 intro a0 a1 k
 have ih0:=impl_Disk_texts.mono_l k
 unfold impl_Disk_texts.f
 repeat' first
   | (with_reducible exact ih0 _ _ _ _ _ _)
   | (with_reducible exact impl_ReadSector.mono _ _ _)
   | (with_reducible exact slices_Concat_string_string.mono _ _)
   | (with_reducible exact LeO.refl _)
   | (with_reducible exact LeO.none _)
   | (with_reducible refine LeO.ite ?_ ?_)
   | (with_reducible refine LeO.bind ?_ (fun _=>?_))
   | exact ih0 _ _ _ _ _ _
   | exact impl_ReadSector.mono _ _ _
   | exact slices_Concat_string_string.mono _ _
   | exact LeO.none _
   | refine LeO.ite ?_ ?_
   | refine LeO.bind ?_ (fun _=>?_)
set_option maxHeartbeats 8000000 in
set_option maxRecDepth 100000 in
theorem impl_Disk_texts.calls (k:Nat) (P0_0_:Nat → Prop) (A0_0:Option Addr) (c0_0:Nat) (l0_0:List ByteArray) (P0_1_:Nat → Prop) (A0_1:Option Addr) (c0_1:Nat) (l0_1:List ByteArray) (r1:List ByteArray) (r2:Int) (w:World) (hs0_0:Kd.V Kd.string 9 w w.heap.size (fun k_=>P0_0_ k_) (.slice A0_0 l0_0.length c0_0) l0_0) (hs0_1:Kd.V Kd.string 9 w w.heap.size (fun k_=>P0_1_ k_) (.slice A0_1 l0_1.length c0_1) l0_1) (h:impl_Disk_texts.f k l0_0 l0_1 = some (r1,r2)) :
  Calls Try.prog 39 #[.agg #[.slice A0_0 l0_0.length c0_0,.slice A0_1 l0_1.length c0_1]] w fun e w'=>∃ v0_:Value,e = .returned (.tuple #[v0_,.int .i64 r2]) ∧ Kd.R Kd.string 9 w' w.heap.size (fun k_=>(w.heap.size ≤ k_)) v0_ r1 ∧ Below w.heap.size w w':=by
 have hu34:=Try.underlying34
 have HO0_0:=Aside0.mk (show Kd.V Kd.string 9 w w.heap.size (fun k_=>((P0_0_ k_ ∨ P0_1_ k_) ∨ w.heap.size ≤ k_)) (.slice A0_0 l0_0.length c0_0) l0_0 from Kd.V_mono hs0_0 (fun k_ hk=>.inl (.inl hk)))
 have HO0_1:=Aside0.mk (show Kd.V Kd.string 9 w w.heap.size (fun k_=>((P0_0_ k_ ∨ P0_1_ k_) ∨ w.heap.size ≤ k_)) (.slice A0_1 l0_1.length c0_1) l0_1 from Kd.V_mono hs0_1 (fun k_ hk=>.inl (.inr hk)))
 have HB:=Aside0.mk (Below.refl w.heap.size w)
 have H:((slices_Concat_string_string.f k (([l0_0,l0_1]:List (List ByteArray)))).bind fun t279=>(impl_Disk_texts.l0 k ([]:List ByteArray) (⟨#[]⟩:ByteArray) 0 t279 (t279.length:Int) 0)) = some (r1,r2):=h
 clear h
 obtain ⟨y276,hy276⟩:∃ y_:List (List ByteArray),y_ = (([l0_0,l0_1]:List (List ByteArray))):=⟨_,rfl⟩
 replace H:((slices_Concat_string_string.f k y276).bind fun t279=>(impl_Disk_texts.l0 k ([]:List ByteArray) (⟨#[]⟩:ByteArray) 0 t279 (t279.length:Int) 0)) = some (r1,r2):=by first|(rw [hy276];with_reducible exact H)|(have H2_:=(Option.bind_some _ _).symm.trans H;rw [hy276];with_reducible exact H2_)|(have H2_:=(Option.bind_some _ _).symm.trans H;with_reducible exact H2_)|with_reducible exact H|(rw [hy276];exact H)|exact H
 have Ny276:=Aside0.mk hy276
 clear hy276
 replace H:=Option.bind_eq_some_iff.mp H
 obtain ⟨t279,A20,H⟩:=H
 replace H:(impl_Disk_texts.l0 k ([]:List ByteArray) (⟨#[]⟩:ByteArray) 0 t279 (t279.length:Int) 0) = some (r1,r2):=H
 have A2:=Aside0.mk A20
 clear A20
 have H':=Aside0.mk H
 clear H
 go_enter Try.func39,Try.ntmps39
 go_wp2_with (first|((with_reducible refine gate_dst (N:=1) rfl ?_);refine box_event ?hg (N:=1) ?hd (cs:=#[.slice A0_0 l0_0.length c0_0,.slice A0_1 l0_1.length c0_1]) (t:=34) ?hr ?_;(case hd=>rfl);(case hg=>rfl);(case hr=>first|(go_simp;done)|(go_simp;rfl));intro gb275 hg w3 hbox hb;have n0_:=Aside0.mk (Kd.V_below (Kd.V_elderB (by (with_reducible repeat (first|apply Kd.V_alloc|apply Kd.V_drewN|apply Kd.V_drew));exact HO0_0.out) gb275 (Nat.le_of_eq hg.symm)) hb);have n1_:=Aside0.mk (Kd.V_below (Kd.V_elderB (by (with_reducible repeat (first|apply Kd.V_alloc|apply Kd.V_drewN|apply Kd.V_drew));exact HO0_1.out) gb275 (Nat.le_of_eq hg.symm)) hb);have n2_:=Aside0.mk (below_step (by repeat (first|(with_reducible first|exact HB.out|apply below_alloc|apply pw_below_drewN|apply below_drew1)|exact HB.out)) hb);have n3_:=Aside0.mk (hbox);have n4_:=Aside0.mk ((by rw [hg];exact (below_size (by repeat (first|(with_reducible first|exact HB.out|apply below_alloc|apply pw_below_drewN|apply below_drew1)|exact HB.out))):w.heap.size ≤ gb275));have n5_:=Aside0.mk ((by rw [hg];exact (below_size (by repeat (first|(with_reducible first|exact HB.out|apply below_alloc|apply pw_below_drewN|apply below_drew1)|exact HB.out))):w.heap.size ≤ gb275));clear HO0_0;clear HO0_1;clear HB;have HO0_0:=n0_;have HO0_1:=n1_;have HB:=n2_;have BK275:=n3_;have GW275:=n4_;have GE275:=n5_;clear n0_ n1_ n2_ n3_ n4_ n5_;clear hb hbox hg;have hcz4_0:w3.cell? ⟨gb275,0,none⟩ = some (.slice A0_0 l0_0.length c0_0):=(blk_cell BK275.out 0).trans rfl;have hcz4_1:w3.cell? ⟨gb275,1,none⟩ = some (.slice A0_1 l0_1.length c0_1):=(blk_cell BK275.out 1).trans rfl;have hfz4_0:=blk_frozen BK275.out 0;have hfz4_1:=blk_frozen BK275.out 1)|((with_reducible refine gate_dst (N:=16) rfl ?_);refine Kd.N_lit (Kd.slice 9 Kd.string) _ 28 ?hg (N':=16) ?hd (xs:=([l0_0,l0_1]:List (List ByteArray))) (inner:=[.slice A0_0 l0_0.length c0_0,.slice A0_1 l0_1.length c0_1]) (ok:=(fun k_=>((P0_0_ k_ ∨ P0_1_ k_) ∨ w.heap.size ≤ k_) ∧ k_ ≠ gb275)) (okp:=(fun k_=>((P0_0_ k_ ∨ P0_1_ k_) ∨ w.heap.size ≤ k_) ∧ k_ ≠ gb275)) ?hr ?hp (fun _ hk=>hk) ((show ∀ k_,w3.heap.size ≤ k_ → (fun k_=>((P0_0_ k_ ∨ P0_1_ k_) ∨ w.heap.size ≤ k_) ∧ k_ ≠ gb275) k_ from fun k_ hk=>⟨(.inr (Nat.le_trans (below_size (by repeat (first|(with_reducible first|exact HB.out|apply below_alloc|apply pw_below_drewN|apply below_drew1|refine below_set ?_ GE275.out)|exact HB.out))) hk)),Kd.freshB (g:=gb275) (o:=.cells #[.slice A0_0 l0_0.length c0_0,.slice A0_1 l0_1.length c0_1] 34 (0,0)) (by (with_reducible repeat (first|refine blk_drewN ?_ _|refine blk_drew ?_|refine blk_alloc ?_ _));exact BK275.out) k_ hk⟩) _ (Nat.le_refl _)) (Below.refl _ _) (Nat.le_refl _) (by simp) ?_;(case hd=>rfl);(case hg=>rfl);(case hr=>first|(go_simp;done)|(go_simp;rfl));(case hp=>exact (Reps.one (show Kd.FK (Kd.slice 9 Kd.string) _ _ l0_0 [.slice A0_0 l0_0.length c0_0] from (Kd.FK_slice_mk (Kd.V_reads' (Kd.V_mono (ok':=(fun k_=>((P0_0_ k_ ∨ P0_1_ k_) ∨ w.heap.size ≤ k_) ∧ k_ ≠ gb275)) (HO0_0.out) (fun k_ hk=>⟨hk.1,hk.2⟩))).2.1 (Kd.V_F (Kd.V_mono (ok':=(fun k_=>((P0_0_ k_ ∨ P0_1_ k_) ∨ w.heap.size ≤ k_) ∧ k_ ≠ gb275)) (HO0_0.out) (fun k_ hk=>⟨hk.1,hk.2⟩))))) (Reps.one (show Kd.FK (Kd.slice 9 Kd.string) _ _ l0_1 [.slice A0_1 l0_1.length c0_1] from (Kd.FK_slice_mk (Kd.V_reads' (Kd.V_mono (ok':=(fun k_=>((P0_0_ k_ ∨ P0_1_ k_) ∨ w.heap.size ≤ k_) ∧ k_ ≠ gb275)) (HO0_1.out) (fun k_ hk=>⟨hk.1,hk.2⟩))).2.1 (Kd.V_F (Kd.V_mono (ok':=(fun k_=>((P0_0_ k_ ∨ P0_1_ k_) ∨ w.heap.size ≤ k_) ∧ k_ ≠ gb275)) (HO0_1.out) (fun k_ hk=>⟨hk.1,hk.2⟩))))) (Reps.none _ _))));intro v277 w5 ho6 hb hg_ hnew_;clear hg_ hnew_;(first|rw [← Ny276.out] at ho6|(simp only [Int.reduceToNat] at ho6;rw [← Ny276.out] at ho6));have n0_:=Aside0.mk (Kd.V_elder' (by (with_reducible repeat (first|apply Kd.V_alloc|apply Kd.V_drewN|apply Kd.V_drew));exact HO0_0.out) (Kd.N_base ho6) hb);have n1_:=Aside0.mk (Kd.V_elder' (by (with_reducible repeat (first|apply Kd.V_alloc|apply Kd.V_drewN|apply Kd.V_drew));exact HO0_1.out) (Kd.N_base ho6) hb);have n2_:=Aside0.mk (Kd.N_lower ho6 (below_size (by repeat (first|(with_reducible first|exact HB.out|apply below_alloc|apply pw_below_drewN|apply below_drew1|refine below_set ?_ GE275.out)|exact HB.out))));have n3_:=Aside0.mk (blk_below (g:=gb275) (o:=.cells #[.slice A0_0 l0_0.length c0_0,.slice A0_1 l0_1.length c0_1] 34 (0,0)) (by (with_reducible repeat (first|refine blk_drewN ?_ _|refine blk_drew ?_|refine blk_alloc ?_ _));exact BK275.out) hb);have n4_:=Aside0.mk (below_step (by repeat (first|(with_reducible first|exact HB.out|apply below_alloc|apply pw_below_drewN|apply below_drew1|refine below_set ?_ GE275.out)|exact HB.out)) hb);clear HO0_0;clear HO0_1;clear BK275;clear HB;have HO0_0:=n0_;have HO0_1:=n1_;have HO278:=n2_;have BK275:=n3_;have HB:=n4_;clear n0_ n1_ n2_ n3_ n4_;clear hb ho6;obtain ⟨Ao7,co7,eo7⟩:=Kd.N_slice HO278.out;subst eo7)|((with_reducible refine gate_callee (f:=46) rfl ?_);refine goesL_ (some 17) rfl rfl Try.func46 (by kernel_rfl) rfl #[.slice Ao7 y276.length co7] rfl (by (try simp only [List.map_toArray,List.map_cons,List.map_nil]);first|done|rfl|(simp only [List.length_drop,List.length_take];rfl)) ?_;(with_reducible refine (slices_Concat_string_string.calls k _ _ y276 t279 _ ?side1 ?side2 A2.out).mono ?_);(case side1=>repeat (first|exact (Kd.N_reads' HO278.out).2.2|(with_reducible refine Kd.C_alloc ?_ _)|(with_reducible refine Kd.C_drewN ?_ _)|(with_reducible refine Kd.C_drew ?_)));(case side2=>exact (Kd.N_reads' HO278.out).2.1);rintro e w8 ⟨v280,rfl,ho0,hb⟩;refine ⟨_,rfl,?_⟩;have n0_:=Aside0.mk (Kd.V_elder' (by (with_reducible repeat (first|apply Kd.V_alloc|apply Kd.V_drewN|apply Kd.V_drew));exact HO0_0.out) (Kd.R_base ho0) hb);have n1_:=Aside0.mk (Kd.V_elder' (by (with_reducible repeat (first|apply Kd.V_alloc|apply Kd.V_drewN|apply Kd.V_drew));exact HO0_1.out) (Kd.R_base ho0) hb);have n2_:=Aside0.mk (Kd.N_elder' (by (with_reducible repeat (first|apply Kd.N_alloc|apply Kd.N_drewN|apply Kd.N_drew));exact HO278.out) (Kd.R_base ho0) hb);have n3_:=Aside0.mk (Kd.R_lower (Kd.R_newM (M:=fun k_=>(w.heap.size ≤ k_)) ho0 (below_size (by repeat (first|(with_reducible first|exact HB.out|apply below_alloc|apply pw_below_drewN|apply below_drew1|refine below_set ?_ GE275.out)|exact HB.out))) (fun k_ h_=>h_)) (below_size (by repeat (first|(with_reducible first|exact HB.out|apply below_alloc|apply pw_below_drewN|apply below_drew1|refine below_set ?_ GE275.out)|exact HB.out))));have n4_:=Aside0.mk (blk_below (g:=gb275) (o:=.cells #[.slice A0_0 l0_0.length c0_0,.slice A0_1 l0_1.length c0_1] 34 (0,0)) (by (with_reducible repeat (first|refine blk_drewN ?_ _|refine blk_drew ?_|refine blk_alloc ?_ _));exact BK275.out) hb);have n5_:=Aside0.mk (below_step (by repeat (first|(with_reducible first|exact HB.out|apply below_alloc|apply pw_below_drewN|apply below_drew1|refine below_set ?_ GE275.out)|exact HB.out)) hb);clear HO0_0;clear HO0_1;clear HO278;clear BK275;clear HB;have HO0_0:=n0_;have HO0_1:=n1_;have HO278:=n2_;have HO281:=n3_;have BK275:=n4_;have HB:=n5_;clear n0_ n1_ n2_ n3_ n4_ n5_;(try clear hb);(try clear hb2);(try clear hk);(try clear hi);(try clear ho0);obtain ⟨Ao9,co9,eo9⟩:=Kd.R_slice HO281.out;subst eo9))
 go_loopg [4,5,6,19] k (fun kq v4 v5 v6 v19 w'=>∃ (x4_1:List ByteArray) (x5_1:ByteArray) (x6_1:Int) (x19_1:Int),v5 = .string x5_1 ∧ v6 = .int .i64 x6_1 ∧ v19 = .int .i64 x19_1 ∧ Aside0 (impl_Disk_texts.l0 kq x4_1 x5_1 x6_1 t279 (t279.length:Int) x19_1 = some (r1,r2)) ∧ Aside0 (kq ≤ k) ∧ Aside0 (Kd.R Kd.string 9 w' w.heap.size (fun k_=>(w.heap.size ≤ k_) ∧ some k_ ≠ ((.slice Ao9 t279.length co9):Value).ownBlock) v4 x4_1) ∧ Aside0 (Kd.R Kd.string 9 w' w.heap.size (fun k_=>(w.heap.size ≤ k_) ∧ some k_ ≠ (v4:Value).ownBlock) (.slice Ao9 t279.length co9) t279) ∧ Aside0 (Kd.V Kd.string 9 w' w.heap.size (fun k_=>((P0_0_ k_ ∨ P0_1_ k_) ∨ w.heap.size ≤ k_) ∧ some k_ ≠ (v4:Value).ownBlock ∧ some k_ ≠ ((.slice Ao9 t279.length co9):Value).ownBlock ∧ k_ ≠ gb275) (.slice A0_0 l0_0.length c0_0) l0_0) ∧ Aside0 (Kd.V Kd.string 9 w' w.heap.size (fun k_=>((P0_0_ k_ ∨ P0_1_ k_) ∨ w.heap.size ≤ k_) ∧ some k_ ≠ (v4:Value).ownBlock ∧ some k_ ≠ ((.slice Ao9 t279.length co9):Value).ownBlock ∧ k_ ≠ gb275) (.slice A0_1 l0_1.length c0_1) l0_1) ∧ Aside0 (w'.heap[gb275]? = some (.cells #[(.slice A0_0 l0_0.length c0_0),(.slice A0_1 l0_1.length c0_1)] 34 (0,0))) ∧ Aside0 (Below w.heap.size w w'))
 case atStart=>exact ⟨(([]:List ByteArray)),((⟨#[]⟩:ByteArray)),(0),(0),(by first|rfl|(simp;done)|(simp [*];done)),(by first|rfl|(simp;done)|(simp [*];done)),(by first|rfl|(simp;done)|(simp [*];done)),H',⟨Nat.le_refl _⟩,⟨by first|exact Kd.R_nil _ _ _ _ _|exact Kd.N_nil _ _ _ _ _|exact Kd.V_nil _ _ _ _ _|exact Kd.Q_nil _ _ _ _ _|exact Kd.S_nil _ _ _ _ _⟩,⟨by (with_reducible repeat (first|apply Kd.R_alloc|apply Kd.R_drewN|apply Kd.R_drew));exact Kd.R_mono HO281.out (fun _ hk=>⟨hk.1,(by simp [Value.ownBlock])⟩)⟩,⟨by (with_reducible repeat (first|apply Kd.V_alloc|apply Kd.V_drewN|apply Kd.V_drew));exact Kd.V_mono HO0_0.out (fun _ hk=>⟨hk.1.1.1,⟨(by simp [Value.ownBlock]),⟨hk.2,hk.1.1.2⟩⟩⟩)⟩,⟨by (with_reducible repeat (first|apply Kd.V_alloc|apply Kd.V_drewN|apply Kd.V_drew));exact Kd.V_mono HO0_1.out (fun _ hk=>⟨hk.1.1.1,⟨(by simp [Value.ownBlock]),⟨hk.2,hk.1.1.2⟩⟩⟩)⟩,⟨by (with_reducible repeat (first|refine blk_drewN ?_ _|refine blk_drew ?_|refine blk_alloc ?_ _));exact BK275.out⟩,⟨by repeat (first|(with_reducible first|exact HB.out|apply below_alloc|apply pw_below_drewN|apply below_drew1|refine below_set ?_ GE275.out)|exact HB.out)⟩⟩
 case round =>
  clear H'
  try clear p2
  try clear c3
  try clear c4
  try clear hcz4_0
  try clear hcz4_1
  try clear hfz4_0
  try clear hfz4_1
  obtain ⟨x4_1,x5_1,x6_1,x19_1,rfl,rfl,rfl,HA,HK1,HO_4,HO_17,HO_276000,HO_276001,BK275,HB⟩:=hrel
  cases gk with
  | zero=>exact absurd HA.out (by simp [impl_Disk_texts.l0])
  | succ k1 =>
   have H:=HA.out
   clear HA
   simp only [impl_Disk_texts.l0] at H
   by_cases c10:x19_1 < (t279.length:Int)
   ·rw [if_pos c10] at H
    have c10b0:decide (x19_1 < (t279.length:Int)) = true:=decide_eq_true c10
    clear c10
    by_cases c11:0 ≤ x19_1
    ·rw [if_pos c11] at H
     have c11b0:decide (0 ≤ x19_1) = true:=decide_eq_true c11
     clear c11
     by_cases c12:x19_1 < (t279.length:Int)
     ·rw [if_pos c12] at H
      have c12b0:decide (x19_1 < (t279.length:Int)) = true:=decide_eq_true c12
      clear c12
      replace H:=Option.bind_eq_some_iff.mp H
      obtain ⟨⟨t283,t284,t285⟩,A130,H⟩:=H
      replace H:(if t285 = true then (if x5_1.size + t283.size ≤ 9223372036854775807 then (if t284 = true then (if x4_1.length < 8796093022208 then (impl_Disk_texts.l0 k1 (x4_1 ++ [x5_1 ++ t283]) (⟨#[]⟩:ByteArray) (wrap64 (x19_1 + 1)) t279 (t279.length:Int) (wrap64 (x19_1 + 1))) else (none)) else (impl_Disk_texts.l0 k1 x4_1 (x5_1 ++ t283) x6_1 t279 (t279.length:Int) (wrap64 (x19_1 + 1)))) else (none)) else (some (x4_1,x6_1))) = some (r1,r2):=H
      have A13:=Aside0.mk A130
      clear A130
      by_cases c14:t285 = true
      ·subst c14
       have H1:(if x5_1.size + t283.size ≤ 9223372036854775807 then (if t284 = true then (if x4_1.length < 8796093022208 then (impl_Disk_texts.l0 k1 (x4_1 ++ [x5_1 ++ t283]) (⟨#[]⟩:ByteArray) (wrap64 (x19_1 + 1)) t279 (t279.length:Int) (wrap64 (x19_1 + 1))) else (none)) else (impl_Disk_texts.l0 k1 x4_1 (x5_1 ++ t283) x6_1 t279 (t279.length:Int) (wrap64 (x19_1 + 1)))) else (none)) = some (r1,r2):=by rw [if_pos rfl] at H;exact H
       clear H
       have H:=H1
       clear H1
       by_cases c15:x5_1.size + t283.size ≤ 9223372036854775807
       ·rw [if_pos c15] at H
        have c15b0:=eq_true c15
        have c15b1:decide (x5_1.size + t283.size ≤ 9223372036854775807) = true:=decide_eq_true c15
        try have c15b2:(9223372036854775807 < x5_1.size + t283.size) = False:=eq_false (Nat.not_lt.2 c15)
        by_cases c16:t284 = true
        ·subst c16
         have H1:(if x4_1.length < 8796093022208 then (impl_Disk_texts.l0 k1 (x4_1 ++ [x5_1 ++ t283]) (⟨#[]⟩:ByteArray) (wrap64 (x19_1 + 1)) t279 (t279.length:Int) (wrap64 (x19_1 + 1))) else (none)) = some (r1,r2):=by rw [if_pos rfl] at H;exact H
         clear H
         have H:=H1
         clear H1
         by_cases c17:x4_1.length < 8796093022208
         ·rw [if_pos c17] at H
          have LMc17:=Aside0.mk c17
          clear c17
          obtain ⟨y286,hy286⟩:∃ y_:List ByteArray,y_ = (x4_1 ++ [x5_1 ++ t283]):=⟨_,rfl⟩
          replace H:(impl_Disk_texts.l0 k1 y286 (⟨#[]⟩:ByteArray) (wrap64 (x19_1 + 1)) t279 (t279.length:Int) (wrap64 (x19_1 + 1))) = some (r1,r2):=by first|(rw [hy286];with_reducible exact H)|(have H2_:=(Option.bind_some _ _).symm.trans H;rw [hy286];with_reducible exact H2_)|(have H2_:=(Option.bind_some _ _).symm.trans H;with_reducible exact H2_)|with_reducible exact H|(rw [hy286];exact H)|exact H
          have Ny286:=Aside0.mk hy286
          clear hy286
          have H':=Aside0.mk H
          clear H
          have p282:0 ≤ (x19_1:Int):=of_decide_eq_true (by first|(with_reducible assumption)|assumption)
          have q282:x19_1 < (t279.length:Int):=of_decide_eq_true (by first|(with_reducible assumption)|assumption)
          obtain ⟨ad282,e282,hx282_0⟩:=Kd.at_string (Kd.R_reads' HO_17.out).2.2 x19_1 p282 q282
          cases e282
          replace p282:=eq_true p282
          replace q282:=eq_true q282
          go_wp2_with (first|((with_reducible refine gate_callee (f:=12) rfl ?_);refine goesL_ (some 27) rfl rfl Try.func12 (by kernel_rfl) rfl #[.int .i64 x19_1,.string (rdOf ByteArray.empty t279 x19_1)] rfl (by (try simp only [List.map_toArray,List.map_cons,List.map_nil]);first|done|rfl|(simp only [List.length_drop,List.length_take];rfl)) ?_;(with_reducible refine (impl_ReadSector.calls k1 x19_1 (rdOf ByteArray.empty t279 x19_1) t283 true true _ A13.out).mono ?_);rintro e w18 ⟨rfl,hb⟩;refine ⟨_,rfl,?_⟩;have n0_:=Aside0.mk (Kd.R_below (by (with_reducible repeat (first|apply Kd.R_alloc|apply Kd.R_drewN|apply Kd.R_drew));exact HO_4.out) hb);have n1_:=Aside0.mk (Kd.R_below (by (with_reducible repeat (first|apply Kd.R_alloc|apply Kd.R_drewN|apply Kd.R_drew));exact HO_17.out) hb);have n2_:=Aside0.mk (Kd.V_below (by (with_reducible repeat (first|apply Kd.V_alloc|apply Kd.V_drewN|apply Kd.V_drew));exact HO_276000.out) hb);have n3_:=Aside0.mk (Kd.V_below (by (with_reducible repeat (first|apply Kd.V_alloc|apply Kd.V_drewN|apply Kd.V_drew));exact HO_276001.out) hb);have n4_:=Aside0.mk (blk_below (g:=gb275) (o:=.cells #[.slice A0_0 l0_0.length c0_0,.slice A0_1 l0_1.length c0_1] 34 (0,0)) (by (with_reducible repeat (first|refine blk_drewN ?_ _|refine blk_drew ?_|refine blk_alloc ?_ _));exact BK275.out) hb);have n5_:=Aside0.mk (below_step (by repeat (first|(with_reducible first|exact HB.out|apply below_alloc|apply pw_below_drewN|apply below_drew1|refine below_set ?_ GE275.out)|exact HB.out)) hb);clear HO_4;clear HO_17;clear HO_276000;clear HO_276001;clear BK275;clear HB;have HO_4:=n0_;have HO_17:=n1_;have HO_276000:=n2_;have HO_276001:=n3_;have BK275:=n4_;have HB:=n5_;clear n0_ n1_ n2_ n3_ n4_ n5_;(try clear hb);(try clear hb2);(try clear hk);(try clear hi))|((with_reducible refine gate_builtin (b:=.append) (xs:=#[.tmp 37,.tmp 39]) rfl ?_);at_builtin;refine Kd.R_append Kd.string (w0:=w) w.heap.size rfl (.tmp 37) (.tmp 39) 28 9 (.string ⟨#[]⟩) 16 rfl Try.underlying28 info9 rfl (by decide) (by first|decide|omega) u4 x4_1 (x5_1 ++ t283) [.string (x5_1 ++ t283)] (fun k_=>(w.heap.size ≤ k_) ∧ some k_ ≠ (.slice (some ad282) t279.length co9:Value).ownBlock) (fun _=>False) rfl rfl ?aP (fun _ hk=>hk.elim) ?aF ?aO ?aB ?aS ?aL ?_;(case aP=>exact rfl);(case aB=>exact (by repeat (first|(with_reducible first|exact HB.out|apply below_alloc|apply pw_below_drewN|apply below_drew1|refine below_set ?_ GE275.out)|exact HB.out)));(case aF=>exact (fun k_ hk=>⟨(Nat.le_trans (below_size (by repeat (first|(with_reducible first|exact HB.out|apply below_alloc|apply pw_below_drewN|apply below_drew1|refine below_set ?_ GE275.out)|exact HB.out))) hk),Kd.fresh' (Kd.R_lt (by (with_reducible repeat (first|apply Kd.R_alloc|apply Kd.R_drewN|apply Kd.R_drew));exact HO_17.out)) k_ hk⟩));(case aO=>exact (by (with_reducible repeat (first|apply Kd.R_alloc|apply Kd.R_drewN|apply Kd.R_drew));exact HO_4.out));(case aS=>exact (below_size (by repeat (first|(with_reducible first|exact HB.out|apply below_alloc|apply pw_below_drewN|apply below_drew1|refine below_set ?_ GE275.out)|exact HB.out))));(case aL=>have:=LMc17.out;omega);intro v287 w19 ho hb hg hat;rw [← Ny286.out] at ho;have n0_:=Aside0.mk (Kd.R_after (ok:=(fun k_=>(w.heap.size ≤ k_))) (by (with_reducible repeat (first|apply Kd.R_alloc|apply Kd.R_drewN|apply Kd.R_drew));exact HO_17.out) hg hat);have n1_:=Aside0.mk (Kd.V_afterv (ok:=(fun k_=>((P0_0_ k_ ∨ P0_1_ k_) ∨ w.heap.size ≤ k_) ∧ some k_ ≠ (.slice (some ad282) t279.length co9:Value).ownBlock ∧ k_ ≠ gb275)) (by (with_reducible repeat (first|apply Kd.V_alloc|apply Kd.V_drewN|apply Kd.V_drew));exact Kd.V_mono HO_276000.out (fun _ hk=>⟨⟨hk.1,⟨hk.2.2.1,hk.2.2.2⟩⟩,hk.2.1⟩)) hg hat);have n2_:=Aside0.mk (Kd.V_afterv (ok:=(fun k_=>((P0_0_ k_ ∨ P0_1_ k_) ∨ w.heap.size ≤ k_) ∧ some k_ ≠ (.slice (some ad282) t279.length co9:Value).ownBlock ∧ k_ ≠ gb275)) (by (with_reducible repeat (first|apply Kd.V_alloc|apply Kd.V_drewN|apply Kd.V_drew));exact Kd.V_mono HO_276001.out (fun _ hk=>⟨⟨hk.1,⟨hk.2.2.1,hk.2.2.2⟩⟩,hk.2.1⟩)) hg hat);have n3_:=Aside0.mk (blk_grown (g:=gb275) (o:=.cells #[.slice A0_0 l0_0.length c0_0,.slice A0_1 l0_1.length c0_1] 34 (0,0)) (by (with_reducible repeat (first|refine blk_drewN ?_ _|refine blk_drew ?_|refine blk_alloc ?_ _));exact BK275.out) hg (Kd.R_ne HO_4.out BK275.out (by decide)));have n4_:=Aside0.mk (hb);have n5_:=Aside0.mk (ho);clear HO_17;clear HO_276000;clear HO_276001;clear BK275;clear HB;clear HO_4;have HO_17:=n0_;have HO_276000:=n1_;have HO_276001:=n2_;have BK275:=n3_;have HB:=n4_;have HO288:=n5_;clear n0_ n1_ n2_ n3_ n4_ n5_;clear ho hb hg hat))
          go_roundg k1
          case measure=>have:=HK1.out;omega
          case rel=>exact ⟨(y286),((⟨#[]⟩:ByteArray)),(wrap64 (x19_1 + 1)),(wrap64 (x19_1 + 1)),(by first|rfl|(simp;done)|(simp [*];done)),(by first|rfl|(simp;done)|(simp [*];done)),(by first|rfl|(simp;done)|(simp [*];done)),H',⟨by have:=HK1.out;omega⟩,⟨by (with_reducible repeat (first|apply Kd.R_alloc|apply Kd.R_drewN|apply Kd.R_drew));exact HO288.out⟩,⟨by (with_reducible repeat (first|apply Kd.R_alloc|apply Kd.R_drewN|apply Kd.R_drew));exact HO_17.out⟩,⟨by (with_reducible repeat (first|apply Kd.V_alloc|apply Kd.V_drewN|apply Kd.V_drew));exact Kd.V_mono HO_276000.out (fun _ hk=>⟨hk.1.1,⟨hk.2,⟨hk.1.2.1,hk.1.2.2⟩⟩⟩)⟩,⟨by (with_reducible repeat (first|apply Kd.V_alloc|apply Kd.V_drewN|apply Kd.V_drew));exact Kd.V_mono HO_276001.out (fun _ hk=>⟨hk.1.1,⟨hk.2,⟨hk.1.2.1,hk.1.2.2⟩⟩⟩)⟩,⟨by (with_reducible repeat (first|refine blk_drewN ?_ _|refine blk_drew ?_|refine blk_alloc ?_ _));exact BK275.out⟩,⟨by repeat (first|(with_reducible first|exact HB.out|apply below_alloc|apply pw_below_drewN|apply below_drew1|refine below_set ?_ GE275.out)|exact HB.out)⟩⟩
         ·rw [if_neg c17] at H
          exact absurd H (by simp)
        ·replace c16:=Bool.eq_false_iff.mpr c16
         subst c16
         have H1:(impl_Disk_texts.l0 k1 x4_1 (x5_1 ++ t283) x6_1 t279 (t279.length:Int) (wrap64 (x19_1 + 1))) = some (r1,r2):=by rw [if_neg (show ¬ (false = true) by decide)] at H;exact H
         clear H
         have H:=H1
         clear H1
         have H':=Aside0.mk H
         clear H
         have p282:0 ≤ (x19_1:Int):=of_decide_eq_true (by first|(with_reducible assumption)|assumption)
         have q282:x19_1 < (t279.length:Int):=of_decide_eq_true (by first|(with_reducible assumption)|assumption)
         obtain ⟨ad282,e282,hx282_0⟩:=Kd.at_string (Kd.R_reads' HO_17.out).2.2 x19_1 p282 q282
         cases e282
         replace p282:=eq_true p282
         replace q282:=eq_true q282
         go_wp2_with (first|((with_reducible refine gate_callee (f:=12) rfl ?_);refine goesL_ (some 27) rfl rfl Try.func12 (by kernel_rfl) rfl #[.int .i64 x19_1,.string (rdOf ByteArray.empty t279 x19_1)] rfl (by (try simp only [List.map_toArray,List.map_cons,List.map_nil]);first|done|rfl|(simp only [List.length_drop,List.length_take];rfl)) ?_;(with_reducible refine (impl_ReadSector.calls k1 x19_1 (rdOf ByteArray.empty t279 x19_1) t283 false true _ A13.out).mono ?_);rintro e w20 ⟨rfl,hb⟩;refine ⟨_,rfl,?_⟩;have n0_:=Aside0.mk (Kd.R_below (by (with_reducible repeat (first|apply Kd.R_alloc|apply Kd.R_drewN|apply Kd.R_drew));exact HO_4.out) hb);have n1_:=Aside0.mk (Kd.R_below (by (with_reducible repeat (first|apply Kd.R_alloc|apply Kd.R_drewN|apply Kd.R_drew));exact HO_17.out) hb);have n2_:=Aside0.mk (Kd.V_below (by (with_reducible repeat (first|apply Kd.V_alloc|apply Kd.V_drewN|apply Kd.V_drew));exact HO_276000.out) hb);have n3_:=Aside0.mk (Kd.V_below (by (with_reducible repeat (first|apply Kd.V_alloc|apply Kd.V_drewN|apply Kd.V_drew));exact HO_276001.out) hb);have n4_:=Aside0.mk (blk_below (g:=gb275) (o:=.cells #[.slice A0_0 l0_0.length c0_0,.slice A0_1 l0_1.length c0_1] 34 (0,0)) (by (with_reducible repeat (first|refine blk_drewN ?_ _|refine blk_drew ?_|refine blk_alloc ?_ _));exact BK275.out) hb);have n5_:=Aside0.mk (below_step (by repeat (first|(with_reducible first|exact HB.out|apply below_alloc|apply pw_below_drewN|apply below_drew1|refine below_set ?_ GE275.out)|exact HB.out)) hb);clear HO_4;clear HO_17;clear HO_276000;clear HO_276001;clear BK275;clear HB;have HO_4:=n0_;have HO_17:=n1_;have HO_276000:=n2_;have HO_276001:=n3_;have BK275:=n4_;have HB:=n5_;clear n0_ n1_ n2_ n3_ n4_ n5_;(try clear hb);(try clear hb2);(try clear hk);(try clear hi)))
         go_roundg k1
         case measure=>have:=HK1.out;omega
         case rel=>exact ⟨(x4_1),(x5_1 ++ t283),(x6_1),(wrap64 (x19_1 + 1)),(by first|rfl|(simp;done)|(simp [*];done)),(by first|rfl|(simp;done)|(simp [*];done)),(by first|rfl|(simp;done)|(simp [*];done)),H',⟨by have:=HK1.out;omega⟩,⟨by (with_reducible repeat (first|apply Kd.R_alloc|apply Kd.R_drewN|apply Kd.R_drew));exact HO_4.out⟩,⟨by (with_reducible repeat (first|apply Kd.R_alloc|apply Kd.R_drewN|apply Kd.R_drew));exact HO_17.out⟩,⟨by (with_reducible repeat (first|apply Kd.V_alloc|apply Kd.V_drewN|apply Kd.V_drew));exact HO_276000.out⟩,⟨by (with_reducible repeat (first|apply Kd.V_alloc|apply Kd.V_drewN|apply Kd.V_drew));exact HO_276001.out⟩,⟨by (with_reducible repeat (first|refine blk_drewN ?_ _|refine blk_drew ?_|refine blk_alloc ?_ _));exact BK275.out⟩,⟨by repeat (first|(with_reducible first|exact HB.out|apply below_alloc|apply pw_below_drewN|apply below_drew1|refine below_set ?_ GE275.out)|exact HB.out)⟩⟩
       ·rw [if_neg c15] at H
        exact absurd H (by simp)
      ·replace c14:=Bool.eq_false_iff.mpr c14
       subst c14
       have H1:(some (x4_1,x6_1)) = some (r1,r2):=by rw [if_neg (show ¬ (false = true) by decide)] at H;exact H
       clear H
       have H:=H1
       clear H1
       simp only [Option.some.injEq,Prod.mk.injEq] at H
       obtain ⟨rfl,rfl⟩:=H
       have p282:0 ≤ (x19_1:Int):=of_decide_eq_true (by first|(with_reducible assumption)|assumption)
       have q282:x19_1 < (t279.length:Int):=of_decide_eq_true (by first|(with_reducible assumption)|assumption)
       obtain ⟨ad282,e282,hx282_0⟩:=Kd.at_string (Kd.R_reads' HO_17.out).2.2 x19_1 p282 q282
       cases e282
       replace p282:=eq_true p282
       replace q282:=eq_true q282
       go_wp2_with (first|((with_reducible refine gate_callee (f:=12) rfl ?_);refine goesL_ (some 27) rfl rfl Try.func12 (by kernel_rfl) rfl #[.int .i64 x19_1,.string (rdOf ByteArray.empty t279 x19_1)] rfl (by (try simp only [List.map_toArray,List.map_cons,List.map_nil]);first|done|rfl|(simp only [List.length_drop,List.length_take];rfl)) ?_;(with_reducible refine (impl_ReadSector.calls k1 x19_1 (rdOf ByteArray.empty t279 x19_1) t283 t284 false _ A13.out).mono ?_);rintro e w21 ⟨rfl,hb⟩;refine ⟨_,rfl,?_⟩;have n0_:=Aside0.mk (Kd.R_below (by (with_reducible repeat (first|apply Kd.R_alloc|apply Kd.R_drewN|apply Kd.R_drew));exact HO_4.out) hb);have n1_:=Aside0.mk (Kd.R_below (by (with_reducible repeat (first|apply Kd.R_alloc|apply Kd.R_drewN|apply Kd.R_drew));exact HO_17.out) hb);have n2_:=Aside0.mk (Kd.V_below (by (with_reducible repeat (first|apply Kd.V_alloc|apply Kd.V_drewN|apply Kd.V_drew));exact HO_276000.out) hb);have n3_:=Aside0.mk (Kd.V_below (by (with_reducible repeat (first|apply Kd.V_alloc|apply Kd.V_drewN|apply Kd.V_drew));exact HO_276001.out) hb);have n4_:=Aside0.mk (blk_below (g:=gb275) (o:=.cells #[.slice A0_0 l0_0.length c0_0,.slice A0_1 l0_1.length c0_1] 34 (0,0)) (by (with_reducible repeat (first|refine blk_drewN ?_ _|refine blk_drew ?_|refine blk_alloc ?_ _));exact BK275.out) hb);have n5_:=Aside0.mk (below_step (by repeat (first|(with_reducible first|exact HB.out|apply below_alloc|apply pw_below_drewN|apply below_drew1|refine below_set ?_ GE275.out)|exact HB.out)) hb);clear HO_4;clear HO_17;clear HO_276000;clear HO_276001;clear BK275;clear HB;have HO_4:=n0_;have HO_17:=n1_;have HO_276000:=n2_;have HO_276001:=n3_;have BK275:=n4_;have HB:=n5_;clear n0_ n1_ n2_ n3_ n4_ n5_;(try clear hb);(try clear hb2);(try clear hk);(try clear hi)))
       go_ret2
       exact ⟨_,by first|rfl|(simp [errW_none,errW_some] <;> rfl)|(simp [*,errW_none,errW_some] <;> rfl),by (with_reducible repeat (first|apply Kd.R_alloc|apply Kd.R_drewN|apply Kd.R_drew));exact Kd.R_mono HO_4.out (fun _ hk=>hk.1),by repeat (first|(with_reducible first|exact HB.out|apply below_alloc|apply pw_below_drewN|apply below_drew1|refine below_set ?_ GE275.out)|exact HB.out)⟩
     ·rw [if_neg c12] at H
      exact absurd H (by simp)
    ·rw [if_neg c11] at H
     exact absurd H (by simp)
   ·rw [if_neg c10] at H
    have c10b0:decide (x19_1 < (t279.length:Int)) = false:=decide_eq_false c10
    clear c10
    simp only [Option.some.injEq,Prod.mk.injEq] at H
    obtain ⟨rfl,rfl⟩:=H
    go_wp2
    go_ret2
    exact ⟨_,by first|rfl|(simp [errW_none,errW_some] <;> rfl)|(simp [*,errW_none,errW_some] <;> rfl),by (with_reducible repeat (first|apply Kd.R_alloc|apply Kd.R_drewN|apply Kd.R_drew));exact Kd.R_mono HO_4.out (fun _ hk=>hk.1),by repeat (first|(with_reducible first|exact HB.out|apply below_alloc|apply pw_below_drewN|apply below_drew1|refine below_set ?_ GE275.out)|exact HB.out)⟩

end Go.Proofs.Ytamiedpgahpihaa.QFnExactPutText
