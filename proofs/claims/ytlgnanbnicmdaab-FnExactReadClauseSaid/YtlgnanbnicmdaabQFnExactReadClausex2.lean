-- Written by this session's own program (wip/x/xprint.py, over the kit's printer); Lean checks it.
import Derived.Test.YtlgnanbnicmdaabQFnExactReadClausex0
import Derived.Test.YtlgnanbnicmdaabQFnExactReadClausex1
namespace Go.Proofs.Ytlgnanbnicmdaab.QFnExactReadClause
open Go.RowKit Go.Proofs.YtlgnanbnicmdaabW.PrintWords Go.Proofs.YtlgnanbnicmdaabW.PrintLast Go.Proofs.YtlgnanbnicmdaabW.PrintMore
attribute [local go_sem] max2_int min2_int max_two min_two max_three min_three max_four min_four   -- for this text's walks alone
set_option linter.unusedVariables false
set_option linter.unusedSimpArgs false

/-! ### laws_eqLitS: function 18 -/
def laws_eqLitS.l0:Nat → List (S65) → List (S65) → Int → Option (Bool)
 | 0,_,_,_=>none
 | k + 1,x0,x1,x5=>if x5 < (x0.length:Int) then (if 0 ≤ x5 then (if x5 < (x1.length:Int) then ((laws_eqLit.f k ((rd_T65 x0 x5).f0) ((rd_T65 x0 x5).f1) ((rd_T65 x0 x5).f2) ((rd_T65 x1 x5).f0) ((rd_T65 x1 x5).f1) ((rd_T65 x1 x5).f2)).bind fun t121=>(if t121 = true then (laws_eqLitS.l0 k x0 x1 (wrap64 (x5 + 1))) else (some false))) else (none)) else (none)) else (some true)
def laws_eqLitS.f (k:Nat) (l0:List (S65)) (l1:List (S65)):Option (Bool):=if (l0.length:Int) = (l1.length:Int) then (laws_eqLitS.l0 k l0 l1 0) else (some false)
theorem laws_eqLitS.mono_l:∀ k,(∀ y0 y1 y2,LeO (laws_eqLitS.l0 k y0 y1 y2) (laws_eqLitS.l0 (k + 1) y0 y1 y2))
 | 0=>fun _ _ _ r h=>by simp [laws_eqLitS.l0] at h
 | k + 1=>by
  have ih0:=laws_eqLitS.mono_l k
  ·intro y0 y1 y2
   unfold laws_eqLitS.l0
   have m0:=@laws_eqLit.mono
   exact mO
theorem laws_eqLitS.mono:∀ a0 a1 k,LeO (laws_eqLitS.f k a0 a1) (laws_eqLitS.f (k + 1) a0 a1):=by
 intro a0 a1 k
 have ih0:=laws_eqLitS.mono_l k
 unfold laws_eqLitS.f
 have m0:=@laws_eqLit.mono
 exact mO
def laws_eqLitS.T6:Bool × List (List Nat × List Nat):=(true,[([],[]),([],[]),([0,1],[0,1]),([2],[2]),([],[]),([],[]),([4,5],[4,5]),([6],[6]),([3,7],[3,7]),([8],[8])])
def laws_eqLitS.B6:List Nat:=[0,0,3,7,0,0,48,112,255,511]
theorem laws_eqLitS.tab6:rtab .any (opsOf Try.f18 6) = laws_eqLitS.T6:=by kernel_rfl
theorem laws_eqLitS.bits6:waitsOk laws_eqLitS.T6.2 laws_eqLitS.B6 = true:=by kernel_rfl
set_option maxHeartbeats 8000000 in
set_option maxRecDepth 100000 in
theorem laws_eqLitS.calls (k:Nat) (A0:Option Addr) (c0:Nat) (l0:List (S65)) (A1:Option Addr) (c1:Nat) (l1:List (S65)) (r:Bool) (w:World) (hr0:Kd.C k65 w A0 l0.length l0) (hc0:l0.length ≤ c0) (hr1:Kd.C k65 w A1 l1.length l1) (hc1:l1.length ≤ c1) (h:laws_eqLitS.f k l0 l1 = some r) :
  Calls Try.prog 18 #[.slice A0 l0.length c0,.slice A1 l1.length c1] w fun e w'=>e = .returned (.bool r) ∧ Below w.heap.size w w':=by
 have hu65:=Try.underlying65
 have HR0:=Aside0.mk hr0
 have HC0:=Aside0.mk hc0
 clear hr0 hc0
 have HR1:=Aside0.mk hr1
 have HC1:=Aside0.mk hc1
 clear hr1 hc1
 have HB:=Aside0.mk (Below.refl w.heap.size w)
 have H:(if (l0.length:Int) = (l1.length:Int) then (laws_eqLitS.l0 k l0 l1 0) else (some false)) = some r:=h
 clear h
 by_cases c3:(l0.length:Int) = (l1.length:Int)
 ·rw [if_pos c3] at H
  have c3b0:((l0.length:Int) == (l1.length:Int)) = true:=beq_iff_eq.mpr c3
  have c3b1:((l0.length:Int) != (l1.length:Int)) = false:=bne_eq_false_iff_eq.mpr c3
  have c3b2:(l0.length == l1.length) = true:=by first|simpa using c3|(simp at c3 ⊢;omega)
  clear c3
  have H':=Aside0.mk H
  clear H
  go_enter Try.func18,Try.ntmps18
  go_wp2
  go_loopg [5] k (fun kq v5 w'=>∃ (x5_1:Int),v5 = .int .i64 x5_1 ∧ Aside0 (laws_eqLitS.l0 kq l0 l1 x5_1 = some r) ∧ Aside0 (kq ≤ k) ∧ Aside0 (Below w.heap.size w w'))
  case atStart=>exact ⟨(0),Yd,H',⟨Nat.le_refl _⟩,⟨bH⟩⟩
  case round =>
   clear H'
   try clear c1
   try clear p2
   try clear c3
   try clear c3b0
   try clear c3b1
   try clear c3b2
   obtain ⟨x5_1,rfl,HA,HK1,HB⟩:=hrel
   cases gk with
   | zero=>exact absurd HA.out (by simp [laws_eqLitS.l0])
   | succ k1 =>
    have H:=HA.out
    clear HA
    simp only [laws_eqLitS.l0] at H
    by_cases c4:x5_1 < (l0.length:Int)
    ·rw [if_pos c4] at H
     have c4b0:=decide_eq_true c4
     clear c4
     by_cases c5:0 ≤ x5_1
     ·rw [if_pos c5] at H
      have c5b0:=decide_eq_true c5
      clear c5
      by_cases c6:x5_1 < (l1.length:Int)
      ·rw [if_pos c6] at H
       have c6b0:=decide_eq_true c6
       clear c6
       replace H:=Option.bind_eq_some_iff.mp H
       obtain ⟨t121,A70,H⟩:=H
       replace H:(if t121 = true then (laws_eqLitS.l0 k1 l0 l1 (wrap64 (x5_1 + 1))) else (some false)) = some r:=H
       have A7:=Aside0.mk A70
       clear A70
       by_cases c8:t121 = true
       ·subst c8
        have H1:(laws_eqLitS.l0 k1 l0 l1 (wrap64 (x5_1 + 1))) = some r:=by rw [if_pos rfl] at H;exact H
        clear H
        have H:=H1
        clear H1
        have H':=Aside0.mk H
        clear H
        try go_wp2
        have n0_:=Aside0.mk (below_drew1 HB.out)
        clear HB
        have HB:=n0_
        clear n0_
        have p119:0 ≤ (x5_1:Int):=oD
        have q119:x5_1 < (l0.length:Int):=oD
        obtain ⟨ad119,A119_1,c119_1,A119_2,c119_2,e119,hx119_0,hx119_1,hx119_2,hl119_1,hi119_1,hl119_2,hi119_2⟩:=at_T65 HR0.out x5_1 p119 q119
        have hw119_2:=hx119_2
        have hw119_1:=hx119_1
        have hw119_0:=hx119_0
        cases e119
        replace hx119_0:=(HB.out.cell (World.block_lt_of_cell? w _ hx119_0)).trans hx119_0
        replace hx119_1:=(HB.out.cell (World.block_lt_of_cell? w _ hx119_1)).trans hx119_1
        replace hx119_2:=(HB.out.cell (World.block_lt_of_cell? w _ hx119_2)).trans hx119_2
        have HR119_1:=Aside0.mk hi119_1
        have HC119_1:=Aside0.mk hl119_1
        clear hi119_1 hl119_1
        have HR119_2:=Aside0.mk hi119_2
        have HC119_2:=Aside0.mk hl119_2
        clear hi119_2 hl119_2
        replace p119:=eq_true p119
        replace q119:=eq_true q119
        have p120:0 ≤ (x5_1:Int):=oD
        have q120:x5_1 < (l1.length:Int):=oD
        obtain ⟨ad120,A120_1,c120_1,A120_2,c120_2,e120,hx120_0,hx120_1,hx120_2,hl120_1,hi120_1,hl120_2,hi120_2⟩:=at_T65 HR1.out x5_1 p120 q120
        have hw120_2:=hx120_2
        have hw120_1:=hx120_1
        have hw120_0:=hx120_0
        cases e120
        replace hx120_0:=(HB.out.cell (World.block_lt_of_cell? w _ hx120_0)).trans hx120_0
        replace hx120_1:=(HB.out.cell (World.block_lt_of_cell? w _ hx120_1)).trans hx120_1
        replace hx120_2:=(HB.out.cell (World.block_lt_of_cell? w _ hx120_2)).trans hx120_2
        have HR120_1:=Aside0.mk hi120_1
        have HC120_1:=Aside0.mk hl120_1
        clear hi120_1 hl120_1
        have HR120_2:=Aside0.mk hi120_2
        have HC120_2:=Aside0.mk hl120_2
        clear hi120_2 hl120_2
        replace p120:=eq_true p120
        replace q120:=eq_true q120
        refine start_ (n:=10) (S:=fun w'=>w'.cell? (ad119.add ((x5_1).toNat * 3)) = some (.bool ((rd_T65 l0 x5_1).f0)) ∧ w'.cell? ⟨(ad119.add ((x5_1).toNat * 3)).block,(ad119.add ((x5_1).toNat * 3)).off + 1,none⟩ = some (.slice A119_1 ((rd_T65 l0 x5_1).f1).length c119_1) ∧ w'.cell? ⟨(ad119.add ((x5_1).toNat * 3)).block,(ad119.add ((x5_1).toNat * 3)).off + 2,none⟩ = some (.slice A119_2 ((rd_T65 l0 x5_1).f2).length c119_2) ∧ w'.cell? (ad120.add ((x5_1).toNat * 3)) = some (.bool ((rd_T65 l1 x5_1).f0)) ∧ w'.cell? ⟨(ad120.add ((x5_1).toNat * 3)).block,(ad120.add ((x5_1).toNat * 3)).off + 1,none⟩ = some (.slice A120_1 ((rd_T65 l1 x5_1).f1).length c120_1) ∧ w'.cell? ⟨(ad120.add ((x5_1).toNat * 3)).block,(ad120.add ((x5_1).toNat * 3)).off + 2,none⟩ = some (.slice A120_2 ((rd_T65 l1 x5_1).f2).length c120_2)) (ds:=[]) #[false,false,false,false,false,false,false,false,false,false] (by kernel_rfl) rfl rfl ⟨((HB.out.cell (World.block_lt_of_cell? w _ hw119_0)).trans hw119_0),((HB.out.cell (World.block_lt_of_cell? w _ hw119_1)).trans hw119_1),((HB.out.cell (World.block_lt_of_cell? w _ hw119_2)).trans hw119_2),((HB.out.cell (World.block_lt_of_cell? w _ hw120_0)).trans hw120_0),((HB.out.cell (World.block_lt_of_cell? w _ hw120_1)).trans hw120_1),((HB.out.cell (World.block_lt_of_cell? w _ hw120_2)).trans hw120_2)⟩ (fun hHeld=>?_);refine with_tabW laws_eqLitS.tab6 laws_eqLitS.bits6 (fun HT_ HW_=>?_)
        generalize wr.drew = w9 at HB HR119_1 HR119_2 HR120_1 HR120_2 hx119_0 hx119_1 hx119_2 hx120_0 hx120_1 hx120_2 hHeld ⊢
        refine pure_ (i:=0) (N:=some 17) (v:=?_) (a':=?_) #[true,false,false,false,false,false,false,false,false,false] rfl rfl (any_of HT_.out (by kernel_rfl)) (fun _ _ _ h=>h) (Or.inl ⟨by rfl,?_⟩) ?_ ?_
        rotate_left
        ·intro w'
         go_simp
         with_reducible rfl
        rotate_left
        ·simp only [Act.put,List.setIfInBounds_toArray,List.set_cons_zero,List.set_cons_succ,i64_w,i32_w]
         rfl
        refine pure_ (i:=1) (N:=some 18) (v:=?_) (a':=?_) #[true,true,false,false,false,false,false,false,false,false] rfl rfl (any_of HT_.out (by kernel_rfl)) (fun _ _ _ h=>h) (Or.inl ⟨by rfl,?_⟩) ?_ ?_
        rotate_left
        ·intro w'
         go_simp
         with_reducible rfl
        rotate_left
        ·simp only [Act.put,List.setIfInBounds_toArray,List.set_cons_zero,List.set_cons_succ,i64_w,i32_w]
         rfl
        refine pure_ (i:=2) (N:=some 19) (v:=?_) (a':=?_) #[true,true,true,false,false,false,false,false,false,false] rfl rfl (any_of HT_.out (by kernel_rfl)) (fun _ _ _ h=>h) (Or.inl ⟨by rfl,?_⟩) ?_ ?_
        rotate_left
        ·intro w'
         go_simp
         with_reducible rfl
        rotate_left
        ·simp only [Act.put,List.setIfInBounds_toArray,List.set_cons_zero,List.set_cons_succ,i64_w,i32_w]
         rfl
        refine pure_ (i:=4) (N:=some 21) (v:=?_) (a':=?_) #[true,true,true,false,true,false,false,false,false,false] rfl rfl (any_of HT_.out (by kernel_rfl)) (fun _ _ _ h=>h) (Or.inl ⟨by rfl,?_⟩) ?_ ?_
        rotate_left
        ·intro w'
         go_simp
         with_reducible rfl
        rotate_left
        ·simp only [Act.put,List.setIfInBounds_toArray,List.set_cons_zero,List.set_cons_succ,i64_w,i32_w]
         rfl
        refine pure_ (i:=5) (N:=some 22) (v:=?_) (a':=?_) #[true,true,true,false,true,true,false,false,false,false] rfl rfl (any_of HT_.out (by kernel_rfl)) (fun _ _ _ h=>h) (Or.inl ⟨by rfl,?_⟩) ?_ ?_
        rotate_left
        ·intro w'
         go_simp
         with_reducible rfl
        rotate_left
        ·simp only [Act.put,List.setIfInBounds_toArray,List.set_cons_zero,List.set_cons_succ,i64_w,i32_w]
         rfl
        refine pure_ (i:=6) (N:=some 23) (v:=?_) (a':=?_) #[true,true,true,false,true,true,true,false,false,false] rfl rfl (any_of HT_.out (by kernel_rfl)) (fun _ _ _ h=>h) (Or.inl ⟨by rfl,?_⟩) ?_ ?_
        rotate_left
        ·intro w'
         go_simp
         with_reducible rfl
        rotate_left
        ·simp only [Act.put,List.setIfInBounds_toArray,List.set_cons_zero,List.set_cons_succ,i64_w,i32_w]
         rfl
        refine take_ (i:=3) (N:=some 20) (v:=?_) (a':=?_) #[true,true,true,true,true,true,true,false,false,false] rfl rfl (take_ofW HT_.out HW_.out (by kernel_rfl)) (fun _ _ _ h=>h) (Or.inl ⟨by rfl,?_⟩) hHeld ?_ ?_
        rotate_left
        ·rintro w' ⟨s0,s1,s2,s3,s4,s5⟩
         go_simp
         with_reducible rfl
        rotate_left
        ·simp only [Act.put,List.setIfInBounds_toArray,List.set_cons_zero,List.set_cons_succ,i64_w,i32_w]
         rfl
        refine take_ (i:=7) (N:=some 24) (v:=?_) (a':=?_) #[true,true,true,true,true,true,true,true,false,false] rfl rfl (take_ofW HT_.out HW_.out (by kernel_rfl)) (fun _ _ _ h=>h) (Or.inl ⟨by rfl,?_⟩) hHeld ?_ ?_
        rotate_left
        ·rintro w' ⟨s0,s1,s2,s3,s4,s5⟩
         go_simp
         with_reducible rfl
        rotate_left
        ·simp only [Act.put,List.setIfInBounds_toArray,List.set_cons_zero,List.set_cons_succ,i64_w,i32_w]
         rfl
        refine one_ (i:=8) (N:=some 25) #[true,true,true,true,true,true,true,true,true,false] rfl rfl (one_of HT_.out (by kernel_rfl)) (by decide) (fun K hK=>?_)
        refine goes_ Try.func47 (by kernel_rfl) rfl #[.agg #[.bool ((rd_T65 l0 x5_1).f0),.slice A119_1 ((rd_T65 l0 x5_1).f1).length c119_1,.slice A119_2 ((rd_T65 l0 x5_1).f2).length c119_2],.agg #[.bool ((rd_T65 l1 x5_1).f0),.slice A120_1 ((rd_T65 l1 x5_1).f1).length c120_1,.slice A120_2 ((rd_T65 l1 x5_1).f2).length c120_2]] (by rfl) rfl rfl Ya ?_
        with_reducible refine (laws_eqLit.calls k1 ((rd_T65 l0 x5_1).f0) _ _ ((rd_T65 l0 x5_1).f1) _ _ ((rd_T65 l0 x5_1).f2) ((rd_T65 l1 x5_1).f0) _ _ ((rd_T65 l1 x5_1).f1) _ _ ((rd_T65 l1 x5_1).f2) true _ ?side1 ?side2 ?side3 ?side4 ?side5 ?side6 ?side7 ?side8 A7.out).mono ?_
        (case side1=>exact sC HR119_1)
        (case side2=>exact HC119_1.out)
        (case side3=>exact sC HR119_2)
        (case side4=>exact HC119_2.out)
        (case side5=>exact sC HR120_1)
        (case side6=>exact HC120_1.out)
        (case side7=>exact sC HR120_2)
        (case side8=>exact HC120_2.out)
        rintro e w10 ⟨rfl,hb⟩
        refine ⟨_,rfl,?_⟩
        have n0_:=Aside0.mk (below_step bH hb)
        clear HB
        have HB:=n0_
        clear n0_
        (try clear hb)
        (try clear hb2)
        (try clear hk)
        (try clear hi)
        refine hK.out _ _ ⟨((HB.out.cell (World.block_lt_of_cell? w _ hw119_0)).trans hw119_0),((HB.out.cell (World.block_lt_of_cell? w _ hw119_1)).trans hw119_1),((HB.out.cell (World.block_lt_of_cell? w _ hw119_2)).trans hw119_2),((HB.out.cell (World.block_lt_of_cell? w _ hw120_0)).trans hw120_0),((HB.out.cell (World.block_lt_of_cell? w _ hw120_1)).trans hw120_1),((HB.out.cell (World.block_lt_of_cell? w _ hw120_2)).trans hw120_2)⟩ (fun hHeld=>?_)
        clear hK K
        refine norm_ (a':=?_) ?_ ?_
        rotate_left
        ·show Act.put _ (some 25) _ = _
         simp only [Act.put,List.setIfInBounds_toArray,List.set_cons_zero,List.set_cons_succ,i64_w,i32_w]
         rfl
        refine pure_ (i:=9) (N:=some 26) (v:=?_) (a':=?_) #[true,true,true,true,true,true,true,true,true,true] rfl rfl (any_of HT_.out (by kernel_rfl)) (fun _ _ _ h=>h) (Or.inl ⟨by rfl,?_⟩) ?_ ?_
        rotate_left
        ·intro w'
         go_simp
         with_reducible rfl
        rotate_left
        ·simp only [Act.put,List.setIfInBounds_toArray,List.set_cons_zero,List.set_cons_succ,i64_w,i32_w]
         rfl
        refine done_ (done_of HT_.out (by kernel_rfl)) ?_
        try go_wp2
        go_roundg k1
        case measure=>have:=HK1.out;omega
        case rel=>exact ⟨(wrap64 (x5_1 + 1)),Yd,H',⟨by have:=HK1.out;omega⟩,⟨bH⟩⟩
       ·replace c8:=Bool.eq_false_iff.mpr c8
        subst c8
        have H1:(some false) = some r:=by rw [if_neg (show ¬ (false = true) by decide)] at H;exact H
        clear H
        have H:=H1
        clear H1
        obtain rfl:=Option.some.inj H
        try go_wp2
        have n0_:=Aside0.mk (below_drew1 HB.out)
        clear HB
        have HB:=n0_
        clear n0_
        have p119:0 ≤ (x5_1:Int):=oD
        have q119:x5_1 < (l0.length:Int):=oD
        obtain ⟨ad119,A119_1,c119_1,A119_2,c119_2,e119,hx119_0,hx119_1,hx119_2,hl119_1,hi119_1,hl119_2,hi119_2⟩:=at_T65 HR0.out x5_1 p119 q119
        have hw119_2:=hx119_2
        have hw119_1:=hx119_1
        have hw119_0:=hx119_0
        cases e119
        replace hx119_0:=(HB.out.cell (World.block_lt_of_cell? w _ hx119_0)).trans hx119_0
        replace hx119_1:=(HB.out.cell (World.block_lt_of_cell? w _ hx119_1)).trans hx119_1
        replace hx119_2:=(HB.out.cell (World.block_lt_of_cell? w _ hx119_2)).trans hx119_2
        have HR119_1:=Aside0.mk hi119_1
        have HC119_1:=Aside0.mk hl119_1
        clear hi119_1 hl119_1
        have HR119_2:=Aside0.mk hi119_2
        have HC119_2:=Aside0.mk hl119_2
        clear hi119_2 hl119_2
        replace p119:=eq_true p119
        replace q119:=eq_true q119
        have p120:0 ≤ (x5_1:Int):=oD
        have q120:x5_1 < (l1.length:Int):=oD
        obtain ⟨ad120,A120_1,c120_1,A120_2,c120_2,e120,hx120_0,hx120_1,hx120_2,hl120_1,hi120_1,hl120_2,hi120_2⟩:=at_T65 HR1.out x5_1 p120 q120
        have hw120_2:=hx120_2
        have hw120_1:=hx120_1
        have hw120_0:=hx120_0
        cases e120
        replace hx120_0:=(HB.out.cell (World.block_lt_of_cell? w _ hx120_0)).trans hx120_0
        replace hx120_1:=(HB.out.cell (World.block_lt_of_cell? w _ hx120_1)).trans hx120_1
        replace hx120_2:=(HB.out.cell (World.block_lt_of_cell? w _ hx120_2)).trans hx120_2
        have HR120_1:=Aside0.mk hi120_1
        have HC120_1:=Aside0.mk hl120_1
        clear hi120_1 hl120_1
        have HR120_2:=Aside0.mk hi120_2
        have HC120_2:=Aside0.mk hl120_2
        clear hi120_2 hl120_2
        replace p120:=eq_true p120
        replace q120:=eq_true q120
        refine start_ (n:=10) (S:=fun w'=>w'.cell? (ad119.add ((x5_1).toNat * 3)) = some (.bool ((rd_T65 l0 x5_1).f0)) ∧ w'.cell? ⟨(ad119.add ((x5_1).toNat * 3)).block,(ad119.add ((x5_1).toNat * 3)).off + 1,none⟩ = some (.slice A119_1 ((rd_T65 l0 x5_1).f1).length c119_1) ∧ w'.cell? ⟨(ad119.add ((x5_1).toNat * 3)).block,(ad119.add ((x5_1).toNat * 3)).off + 2,none⟩ = some (.slice A119_2 ((rd_T65 l0 x5_1).f2).length c119_2) ∧ w'.cell? (ad120.add ((x5_1).toNat * 3)) = some (.bool ((rd_T65 l1 x5_1).f0)) ∧ w'.cell? ⟨(ad120.add ((x5_1).toNat * 3)).block,(ad120.add ((x5_1).toNat * 3)).off + 1,none⟩ = some (.slice A120_1 ((rd_T65 l1 x5_1).f1).length c120_1) ∧ w'.cell? ⟨(ad120.add ((x5_1).toNat * 3)).block,(ad120.add ((x5_1).toNat * 3)).off + 2,none⟩ = some (.slice A120_2 ((rd_T65 l1 x5_1).f2).length c120_2)) (ds:=[]) #[false,false,false,false,false,false,false,false,false,false] (by kernel_rfl) rfl rfl ⟨((HB.out.cell (World.block_lt_of_cell? w _ hw119_0)).trans hw119_0),((HB.out.cell (World.block_lt_of_cell? w _ hw119_1)).trans hw119_1),((HB.out.cell (World.block_lt_of_cell? w _ hw119_2)).trans hw119_2),((HB.out.cell (World.block_lt_of_cell? w _ hw120_0)).trans hw120_0),((HB.out.cell (World.block_lt_of_cell? w _ hw120_1)).trans hw120_1),((HB.out.cell (World.block_lt_of_cell? w _ hw120_2)).trans hw120_2)⟩ (fun hHeld=>?_);refine with_tabW laws_eqLitS.tab6 laws_eqLitS.bits6 (fun HT_ HW_=>?_)
        generalize wr.drew = w11 at HB HR119_1 HR119_2 HR120_1 HR120_2 hx119_0 hx119_1 hx119_2 hx120_0 hx120_1 hx120_2 hHeld ⊢
        refine pure_ (i:=0) (N:=some 17) (v:=?_) (a':=?_) #[true,false,false,false,false,false,false,false,false,false] rfl rfl (any_of HT_.out (by kernel_rfl)) (fun _ _ _ h=>h) (Or.inl ⟨by rfl,?_⟩) ?_ ?_
        rotate_left
        ·intro w'
         go_simp
         with_reducible rfl
        rotate_left
        ·simp only [Act.put,List.setIfInBounds_toArray,List.set_cons_zero,List.set_cons_succ,i64_w,i32_w]
         rfl
        refine pure_ (i:=1) (N:=some 18) (v:=?_) (a':=?_) #[true,true,false,false,false,false,false,false,false,false] rfl rfl (any_of HT_.out (by kernel_rfl)) (fun _ _ _ h=>h) (Or.inl ⟨by rfl,?_⟩) ?_ ?_
        rotate_left
        ·intro w'
         go_simp
         with_reducible rfl
        rotate_left
        ·simp only [Act.put,List.setIfInBounds_toArray,List.set_cons_zero,List.set_cons_succ,i64_w,i32_w]
         rfl
        refine pure_ (i:=2) (N:=some 19) (v:=?_) (a':=?_) #[true,true,true,false,false,false,false,false,false,false] rfl rfl (any_of HT_.out (by kernel_rfl)) (fun _ _ _ h=>h) (Or.inl ⟨by rfl,?_⟩) ?_ ?_
        rotate_left
        ·intro w'
         go_simp
         with_reducible rfl
        rotate_left
        ·simp only [Act.put,List.setIfInBounds_toArray,List.set_cons_zero,List.set_cons_succ,i64_w,i32_w]
         rfl
        refine pure_ (i:=4) (N:=some 21) (v:=?_) (a':=?_) #[true,true,true,false,true,false,false,false,false,false] rfl rfl (any_of HT_.out (by kernel_rfl)) (fun _ _ _ h=>h) (Or.inl ⟨by rfl,?_⟩) ?_ ?_
        rotate_left
        ·intro w'
         go_simp
         with_reducible rfl
        rotate_left
        ·simp only [Act.put,List.setIfInBounds_toArray,List.set_cons_zero,List.set_cons_succ,i64_w,i32_w]
         rfl
        refine pure_ (i:=5) (N:=some 22) (v:=?_) (a':=?_) #[true,true,true,false,true,true,false,false,false,false] rfl rfl (any_of HT_.out (by kernel_rfl)) (fun _ _ _ h=>h) (Or.inl ⟨by rfl,?_⟩) ?_ ?_
        rotate_left
        ·intro w'
         go_simp
         with_reducible rfl
        rotate_left
        ·simp only [Act.put,List.setIfInBounds_toArray,List.set_cons_zero,List.set_cons_succ,i64_w,i32_w]
         rfl
        refine pure_ (i:=6) (N:=some 23) (v:=?_) (a':=?_) #[true,true,true,false,true,true,true,false,false,false] rfl rfl (any_of HT_.out (by kernel_rfl)) (fun _ _ _ h=>h) (Or.inl ⟨by rfl,?_⟩) ?_ ?_
        rotate_left
        ·intro w'
         go_simp
         with_reducible rfl
        rotate_left
        ·simp only [Act.put,List.setIfInBounds_toArray,List.set_cons_zero,List.set_cons_succ,i64_w,i32_w]
         rfl
        refine take_ (i:=3) (N:=some 20) (v:=?_) (a':=?_) #[true,true,true,true,true,true,true,false,false,false] rfl rfl (take_ofW HT_.out HW_.out (by kernel_rfl)) (fun _ _ _ h=>h) (Or.inl ⟨by rfl,?_⟩) hHeld ?_ ?_
        rotate_left
        ·rintro w' ⟨s0,s1,s2,s3,s4,s5⟩
         go_simp
         with_reducible rfl
        rotate_left
        ·simp only [Act.put,List.setIfInBounds_toArray,List.set_cons_zero,List.set_cons_succ,i64_w,i32_w]
         rfl
        refine take_ (i:=7) (N:=some 24) (v:=?_) (a':=?_) #[true,true,true,true,true,true,true,true,false,false] rfl rfl (take_ofW HT_.out HW_.out (by kernel_rfl)) (fun _ _ _ h=>h) (Or.inl ⟨by rfl,?_⟩) hHeld ?_ ?_
        rotate_left
        ·rintro w' ⟨s0,s1,s2,s3,s4,s5⟩
         go_simp
         with_reducible rfl
        rotate_left
        ·simp only [Act.put,List.setIfInBounds_toArray,List.set_cons_zero,List.set_cons_succ,i64_w,i32_w]
         rfl
        refine one_ (i:=8) (N:=some 25) #[true,true,true,true,true,true,true,true,true,false] rfl rfl (one_of HT_.out (by kernel_rfl)) (by decide) (fun K hK=>?_)
        refine goes_ Try.func47 (by kernel_rfl) rfl #[.agg #[.bool ((rd_T65 l0 x5_1).f0),.slice A119_1 ((rd_T65 l0 x5_1).f1).length c119_1,.slice A119_2 ((rd_T65 l0 x5_1).f2).length c119_2],.agg #[.bool ((rd_T65 l1 x5_1).f0),.slice A120_1 ((rd_T65 l1 x5_1).f1).length c120_1,.slice A120_2 ((rd_T65 l1 x5_1).f2).length c120_2]] (by rfl) rfl rfl Ya ?_
        with_reducible refine (laws_eqLit.calls k1 ((rd_T65 l0 x5_1).f0) _ _ ((rd_T65 l0 x5_1).f1) _ _ ((rd_T65 l0 x5_1).f2) ((rd_T65 l1 x5_1).f0) _ _ ((rd_T65 l1 x5_1).f1) _ _ ((rd_T65 l1 x5_1).f2) false _ ?side1 ?side2 ?side3 ?side4 ?side5 ?side6 ?side7 ?side8 A7.out).mono ?_
        (case side1=>exact sC HR119_1)
        (case side2=>exact HC119_1.out)
        (case side3=>exact sC HR119_2)
        (case side4=>exact HC119_2.out)
        (case side5=>exact sC HR120_1)
        (case side6=>exact HC120_1.out)
        (case side7=>exact sC HR120_2)
        (case side8=>exact HC120_2.out)
        rintro e w12 ⟨rfl,hb⟩
        refine ⟨_,rfl,?_⟩
        have n0_:=Aside0.mk (below_step bH hb)
        clear HB
        have HB:=n0_
        clear n0_
        (try clear hb)
        (try clear hb2)
        (try clear hk)
        (try clear hi)
        refine hK.out _ _ ⟨((HB.out.cell (World.block_lt_of_cell? w _ hw119_0)).trans hw119_0),((HB.out.cell (World.block_lt_of_cell? w _ hw119_1)).trans hw119_1),((HB.out.cell (World.block_lt_of_cell? w _ hw119_2)).trans hw119_2),((HB.out.cell (World.block_lt_of_cell? w _ hw120_0)).trans hw120_0),((HB.out.cell (World.block_lt_of_cell? w _ hw120_1)).trans hw120_1),((HB.out.cell (World.block_lt_of_cell? w _ hw120_2)).trans hw120_2)⟩ (fun hHeld=>?_)
        clear hK K
        refine norm_ (a':=?_) ?_ ?_
        rotate_left
        ·show Act.put _ (some 25) _ = _
         simp only [Act.put,List.setIfInBounds_toArray,List.set_cons_zero,List.set_cons_succ,i64_w,i32_w]
         rfl
        refine pure_ (i:=9) (N:=some 26) (v:=?_) (a':=?_) #[true,true,true,true,true,true,true,true,true,true] rfl rfl (any_of HT_.out (by kernel_rfl)) (fun _ _ _ h=>h) (Or.inl ⟨by rfl,?_⟩) ?_ ?_
        rotate_left
        ·intro w'
         go_simp
         with_reducible rfl
        rotate_left
        ·simp only [Act.put,List.setIfInBounds_toArray,List.set_cons_zero,List.set_cons_succ,i64_w,i32_w]
         rfl
        refine done_ (done_of HT_.out (by kernel_rfl)) ?_
        try go_wp2
        go_ret
        exact ⟨by first|rfl|(simp [errW_none,errW_some] <;> rfl)|(simp [*,errW_none,errW_some] <;> rfl),bH⟩
      ·rw [if_neg c6] at H
       exact absurd H (by simp)
     ·rw [if_neg c5] at H
      exact absurd H (by simp)
    ·rw [if_neg c4] at H
     have c4b0:decide (x5_1 < (l0.length:Int)) = false:=decide_eq_false c4
     clear c4
     obtain rfl:=Option.some.inj H
     go_wp2
     go_ret
     exact ⟨by first|rfl|(simp [errW_none,errW_some] <;> rfl)|(simp [*,errW_none,errW_some] <;> rfl),bH⟩
 ·rw [if_neg c3] at H
  have c3b0:((l0.length:Int) == (l1.length:Int)) = false:=beq_eq_false_iff_ne.mpr c3
  have c3b1:((l0.length:Int) != (l1.length:Int)) = true:=bne_iff_ne.mpr c3
  have c3b2:(l0.length == l1.length) = false:=by first|simpa using c3|(simp at c3 ⊢;omega)
  obtain rfl:=Option.some.inj H
  go_enter Try.func18,Try.ntmps18
  go_wp2
  go_ret
  exact ⟨by first|rfl|(simp [errW_none,errW_some] <;> rfl)|(simp [*,errW_none,errW_some] <;> rfl),bH⟩

/-! ### laws_markIntS: function 22 -/
def laws_markIntS.l0:Nat → List Int → Int → Int → Option (Int × List Int)
 | 0,_,_,_=>none
 | k + 1,x0,x1,x5=>if x5 < (x0.length:Int) then (if 0 ≤ x5 then (laws_markIntS.l0 k (x0.set (x5:Int).toNat x1) (wrap64 (x1 + 1)) (wrap64 (x5 + 1))) else (none)) else (some (x1,x0))
def laws_markIntS.f (k:Nat) (l0:List Int) (a1:Int):Option (Int × List Int):=laws_markIntS.l0 k l0 a1 0
theorem laws_markIntS.mono_l:∀ k,(∀ y0 y1 y2,LeO (laws_markIntS.l0 k y0 y1 y2) (laws_markIntS.l0 (k + 1) y0 y1 y2))
 | 0=>fun _ _ _ r h=>by simp [laws_markIntS.l0] at h
 | k + 1=>by
  have ih0:=laws_markIntS.mono_l k
  ·intro y0 y1 y2
   unfold laws_markIntS.l0
   exact mO
theorem laws_markIntS.mono:∀ a0 a1 k,LeO (laws_markIntS.f k a0 a1) (laws_markIntS.f (k + 1) a0 a1):=by
 intro a0 a1 k
 have ih0:=laws_markIntS.mono_l k
 unfold laws_markIntS.f
 exact mO
set_option maxHeartbeats 8000000 in
set_option maxRecDepth 100000 in
theorem laws_markIntS.calls (k:Nat) (P0_:Nat → Prop) (u9000_:Value) (l0:List Int) (a1:Int) (r1:Int) (r2:List Int) (w0 w:World) (hB:Below w0.heap.size w0 w) (ho0:Kd.R (Kd.int .i64) 3 w w0.heap.size P0_ u9000_ l0) (h:laws_markIntS.f k l0 a1 = some (r1,r2)) :
  Calls Try.prog 22 #[u9000_,.int .i64 a1] w fun e w'=>e = .returned (.int .i64 r1) ∧ Kd.R (Kd.int .i64) 3 w' w0.heap.size (fun k_=>(P0_ k_ ∨ w.heap.size ≤ k_)) u9000_ r2 ∧ Below w0.heap.size w0 w' ∧ Kept w w' (fun k_=>P0_ k_):=by
 have HO0:=Aside0.mk (show Kd.R (Kd.int .i64) 3 w w0.heap.size (fun k_=>(P0_ k_ ∨ w.heap.size ≤ k_)) u9000_ l0 from Kd.R_mono ho0 (fun k_ hk=>(.inl hk)))
 have HK:=Aside0.mk (Kept.refl w (fun k_=>P0_ k_))
 have HW0:=Aside0.mk hB.size
 have HB:=Aside0.mk hB
 clear hB
 have H:(laws_markIntS.l0 k l0 a1 0) = some (r1,r2):=h
 clear h
 have H':=Aside0.mk H
 clear H
 go_enter Try.func22,Try.ntmps22
 go_wp2
 go_loopg [1,5] k (fun kq v1 v5 w'=>∃ (x0_1:List Int) (x1_1:Int) (x5_1:Int),v1 = .int .i64 x1_1 ∧ v5 = .int .i64 x5_1 ∧ Aside0 (laws_markIntS.l0 kq x0_1 x1_1 x5_1 = some (r1,r2)) ∧ Aside0 (kq ≤ k) ∧ Aside0 (Kd.R (Kd.int .i64) 3 w' w0.heap.size (fun k_=>(P0_ k_ ∨ w.heap.size ≤ k_)) u9000_ x0_1) ∧ Aside0 (Kept w w' (fun k_=>P0_ k_)) ∧ Aside0 (Below w0.heap.size w0 w'))
 case atStart=>exact ⟨(l0),(a1),(0),Yd,Yd,H',⟨Nat.le_refl _⟩,⟨rR HO0⟩,⟨kH⟩,⟨bH⟩⟩
 case round =>
  clear H'
  try clear c2
  try clear p2
  obtain ⟨x0_1,x1_1,x5_1,rfl,rfl,HA,HK1,HO_0,HK,HB⟩:=hrel
  cases gk with
  | zero=>exact absurd HA.out (by simp [laws_markIntS.l0])
  | succ k1 =>
   have H:=HA.out
   clear HA
   simp only [laws_markIntS.l0] at H
   by_cases c3:x5_1 < (x0_1.length:Int)
   ·rw [if_pos c3] at H
    have c3b0:=decide_eq_true c3
    clear c3
    by_cases c4:0 ≤ x5_1
    ·rw [if_pos c4] at H
     have c4b0:=decide_eq_true c4
     clear c4
     obtain ⟨y122,hy122⟩:∃ y_:List Int,y_ = (x0_1.set (x5_1:Int).toNat x1_1):=⟨_,rfl⟩
     replace H:(laws_markIntS.l0 k1 y122 (wrap64 (x1_1 + 1)) (wrap64 (x5_1 + 1))) = some (r1,r2):=by first|(rw [hy122];with_reducible exact H)|(have H2_:=(Option.bind_some _ _).symm.trans H;rw [hy122];with_reducible exact H2_)|(have H2_:=(Option.bind_some _ _).symm.trans H;with_reducible exact H2_)|with_reducible exact H|(rw [hy122];exact H)|exact H
     have Ny122:=Aside0.mk hy122
     clear hy122
     have H':=Aside0.mk H
     clear H
     obtain ⟨Ao6,co6,eo6⟩:=Kd.R_slice HO_0.out
     subst eo6
     have p5:0 ≤ (x5_1:Int):=oD
     have q5:(x5_1:Int) < ((x0_1.length:Int):Int):=oD
     obtain ⟨go5,co5,eo5,gb5,gl5,cl5,HG5⟩:=Kd.R_form HO_0.out (by omega)
     (first|cases eo5|(injection eo5 with ea_ en_ ec_;(first|subst ea_|(injection ea_ with ea_;subst ea_));subst ec_;clear en_))
     have GB5:=Aside0.mk gb5
     have GG5:=Aside0.mk HG5
     clear gb5 gl5 HG5
     have HMgo5:=Aside0.mk (show (P0_ go5 ∨ w.heap.size ≤ go5) from (HO_0.out.1 _ rfl))
     obtain ⟨hx5_0,hf5_0⟩:=Kd.R_celln 0 HO_0.out (x5_1:Int) p5 q5
     replace p5:=eq_true p5
     replace q5:=eq_true q5
     have HP7:=Kd.R_putg HO_0.out (x5_1:Int) x1_1
     go_wp2_with (first|((with_reducible refine gate_store (t:=3) (p:=15) rfl ?_);refine store_event (t:=3) (p:=15) (v:=?vo_w8) (w1:=(wr.setCell ⟨go5,(x5_1:Int).toNat,none⟩ (.int .i64 x1_1))) ?hg ?ho ?hn ?hr ?_;(case ho=>rfl);(case hg=>rfl);(case hn=>rfl);(case hr=>first|(go_simp;done)|(go_simp;rfl));intro w8 hw;have hg:wr.grownBy w8 (some go5):=(by rw [hw];exact HP7.2);have hp_:Kd.R (Kd.int .i64) 3 w8 w0.heap.size (fun k_=>(P0_ k_ ∨ w.heap.size ≤ k_)) (.slice (some ⟨go5,0,none⟩) x0_1.length co6) y122:=(by rw [hw,Ny122.out];exact HP7.1);clear HP7;replace HB:=Aside0.mk ((by rw [hw];exact below_set (HB.out) GB5.out:Below w0.heap.size w0 w8));replace HK:=Aside0.mk (Kept.of_grown (S:=(fun k_=>P0_ k_)) hg kH (fun k_ e_=>(HO_0.out.1 k_ e_)));replace HO_0:=Aside0.mk (hp_);clear hg hw hp_))
     go_roundg k1
     case measure=>have:=HK1.out;omega
     case rel=>exact ⟨(y122),(wrap64 (x1_1 + 1)),(wrap64 (x5_1 + 1)),Yd,Yd,H',⟨by have:=HK1.out;omega⟩,⟨rR HO_0⟩,⟨kH⟩,⟨bH⟩⟩
    ·rw [if_neg c4] at H
     exact absurd H (by simp)
   ·rw [if_neg c3] at H
    have c3b0:decide (x5_1 < (x0_1.length:Int)) = false:=decide_eq_false c3
    clear c3
    simp only [Option.some.injEq,Prod.mk.injEq] at H
    obtain ⟨rfl,rfl⟩:=H
    obtain ⟨Ao9,co9,eo9⟩:=Kd.R_slice HO_0.out
    subst eo9
    go_wp2
    go_ret
    exact ⟨by first|rfl|(simp [errW_none,errW_some] <;> rfl)|(simp [*,errW_none,errW_some] <;> rfl),rR HO_0,bH,kH⟩

/-! ### laws_markSign: function 21 -/
def laws_markSign.f (k:Nat) (l0_0:List Int) (a1:Int):Option (Int × List Int):=(laws_markIntS.f k l0_0 a1).bind fun bt124=>(some (bt124.1,bt124.2))
theorem laws_markSign.mono:∀ a0 a1 k,LeO (laws_markSign.f k a0 a1) (laws_markSign.f (k + 1) a0 a1):=by
 intro a0 a1 k
 unfold laws_markSign.f
 have m0:=@laws_markIntS.mono
 exact mO
set_option maxHeartbeats 8000000 in
set_option maxRecDepth 100000 in
theorem laws_markSign.calls (k:Nat) (P0_0_:Nat → Prop) (u9000_:Value) (l0_0:List Int) (a1:Int) (r1:Int) (r2:List Int) (w0 w:World) (hB:Below w0.heap.size w0 w) (ho0_0:Kd.R (Kd.int .i64) 3 w w0.heap.size P0_0_ u9000_ l0_0) (h:laws_markSign.f k l0_0 a1 = some (r1,r2)) :
  Calls Try.prog 21 #[.agg #[u9000_],.int .i64 a1] w fun e w'=>e = .returned (.int .i64 r1) ∧ Kd.R (Kd.int .i64) 3 w' w0.heap.size (fun k_=>(P0_0_ k_ ∨ w.heap.size ≤ k_)) u9000_ r2 ∧ Below w0.heap.size w0 w' ∧ Kept w w' (fun k_=>P0_0_ k_):=by
 have hu30:=Try.underlying30
 have HO0_0:=Aside0.mk (show Kd.R (Kd.int .i64) 3 w w0.heap.size (fun k_=>(P0_0_ k_ ∨ w.heap.size ≤ k_)) u9000_ l0_0 from Kd.R_mono ho0_0 (fun k_ hk=>(.inl hk)))
 have HK:=Aside0.mk (Kept.refl w (fun k_=>P0_0_ k_))
 have HW0:=Aside0.mk hB.size
 have HB:=Aside0.mk hB
 clear hB
 have H:((laws_markIntS.f k l0_0 a1).bind fun bt124=>(some (bt124.1,bt124.2))) = some (r1,r2):=h
 clear h
 replace H:=Option.bind_eq_some_iff.mp H
 obtain ⟨⟨t124,t125⟩,A30,H⟩:=H
 replace H:(some (t124,t125)) = some (r1,r2):=H
 have A3:=Aside0.mk A30
 clear A30
 simp only [Option.some.injEq,Prod.mk.injEq] at H
 obtain ⟨rfl,rfl⟩:=H
 obtain ⟨Ao4,co4,eo4⟩:=Kd.R_slice HO0_0.out
 subst eo4
 go_enter Try.func21,Try.ntmps21
 go_wp2_with (first|((with_reducible refine gate_dst (N:=2) rfl ?_);refine box_event ?hg (N:=2) ?hd (cs:=#[.slice Ao4 l0_0.length co4]) (t:=30) ?hr ?_;(case hd=>rfl);(case hg=>rfl);(case hr=>first|(go_simp;done)|(go_simp;rfl));intro gb123 hg w5 hbox hb;replace HO0_0:=Aside0.mk (Kd.R_below (rR HO0_0) hb);have BK123:=Aside0.mk (hbox);have GW123:=Aside0.mk ((by rw [hg];exact (by first|exact HK.out.1|exact (show Kept w _ (fun k_=>P0_0_ k_) from kH).1):w.heap.size ≤ gb123));replace HK:=Aside0.mk (Kept.below (S:=(fun k_=>P0_0_ k_)) kH hb);have GE123:=Aside0.mk ((hZ:w0.heap.size ≤ gb123));replace HB:=Aside0.mk (below_step bH hb);clear hb hbox hg;have hcz6_0:w5.cell? ⟨gb123,0,none⟩ = some (.slice Ao4 l0_0.length co4):=(blk_cell BK123.out 0).trans rfl;have hfz6_0:=blk_frozen BK123.out 0)|((with_reducible refine gate_callee (f:=22) rfl ?_);refine goesL_ (some 8) rfl rfl Try.func22 (by kernel_rfl) rfl #[.slice Ao4 l0_0.length co4,.int .i64 a1] rfl Ya ?_;(with_reducible refine (laws_markIntS.calls k (fun k_=>some k_ = (.slice Ao4 l0_0.length co4:Value).ownBlock) (.slice Ao4 l0_0.length co4) l0_0 a1 t124 t125 w0 _ ?side1 ?side2 A3.out).mono ?_);(case side1=>repeat (first|(with_reducible first|exact HB.out|apply below_alloc|apply pw_below_drewN|apply below_drew1|refine below_set ?_ GE123.out)|exact HB.out));(case side2=>exact Kd.R_tight rfl HO0_0.out);rintro e w7 ⟨rfl,hy0,hb,hkp⟩;refine ⟨_,rfl,?_⟩;replace BK123:=Aside0.mk (blk_kept (bB BK123) hkp (fun hs_=>(fun e_=>(Kd.R_ne HO0_0.out BK123.out (by decide)) e_) hs_));replace HK:=Aside0.mk (Kept.then_ (S:=(fun k_=>P0_0_ k_)) (by repeat (first|(with_reducible first|exact HK.out|apply Kept.alloc|apply Kept.drewN|apply Kept.drew|refine Kept.setCell ?_ (.inr GW123.out) _)|exact HK.out)) hkp (fun k_ hs_=>(fun e_=>(HO0_0.out.1 k_ e_.symm)) hs_));replace HO0_0:=Aside0.mk (Kd.R_reok rfl hy0 (fun k_ e_=>HO0_0.out.1 k_ e_));replace HB:=Aside0.mk (hb);(try clear hb);(try clear hkp);(try clear hy0)))
 go_ret
 exact ⟨by first|rfl|(simp [errW_none,errW_some] <;> rfl)|(simp [*,errW_none,errW_some] <;> rfl),rR HO0_0,bH,by repeat (first|(with_reducible first|exact HK.out|apply Kept.alloc|apply Kept.drewN|apply Kept.drew|refine Kept.setCell ?_ (.inr GW123.out) _)|exact HK.out)⟩

/-! ### laws_heldIntS: function 24 -/
def laws_heldIntS.l0:Nat → List Int → Int → Int → Option (Int)
 | 0,_,_,_=>none
 | k + 1,x0,x1,x5=>if x5 < (x0.length:Int) then (if 0 ≤ x5 then (if (rd x0 x5) = x1 then (laws_heldIntS.l0 k x0 (wrap64 (x1 + 1)) (wrap64 (x5 + 1))) else (some (-1))) else (none)) else (some x1)
def laws_heldIntS.f (k:Nat) (l0:List Int) (a1:Int):Option (Int):=laws_heldIntS.l0 k l0 a1 0
theorem laws_heldIntS.mono_l:∀ k,(∀ y0 y1 y2,LeO (laws_heldIntS.l0 k y0 y1 y2) (laws_heldIntS.l0 (k + 1) y0 y1 y2))
 | 0=>fun _ _ _ r h=>by simp [laws_heldIntS.l0] at h
 | k + 1=>by
  have ih0:=laws_heldIntS.mono_l k
  ·intro y0 y1 y2
   unfold laws_heldIntS.l0
   exact mO
theorem laws_heldIntS.mono:∀ a0 a1 k,LeO (laws_heldIntS.f k a0 a1) (laws_heldIntS.f (k + 1) a0 a1):=by
 intro a0 a1 k
 have ih0:=laws_heldIntS.mono_l k
 unfold laws_heldIntS.f
 exact mO
set_option maxHeartbeats 8000000 in
set_option maxRecDepth 100000 in
theorem laws_heldIntS.calls (k:Nat) (A0:Option Addr) (c0:Nat) (l0:List Int) (a1:Int) (r:Int) (w:World) (hr0:Kd.C (Kd.int .i64) w A0 l0.length l0) (hc0:l0.length ≤ c0) (h:laws_heldIntS.f k l0 a1 = some r) :
  Calls Try.prog 24 #[.slice A0 l0.length c0,.int .i64 a1] w fun e w'=>e = .returned (.int .i64 r) ∧ Drawn0 w w':=by
 have HR0:=Aside0.mk hr0
 have HC0:=Aside0.mk hc0
 clear hr0 hc0
 have H:(laws_heldIntS.l0 k l0 a1 0) = some r:=h
 clear h
 have H':=Aside0.mk H
 clear H
 go_enter Try.func24,Try.ntmps24
 go_wp2
 go_loopg [1,5] k (fun kq v1 v5 w'=>∃ (x1_1:Int) (x5_1:Int),v1 = .int .i64 x1_1 ∧ v5 = .int .i64 x5_1 ∧ Aside0 (laws_heldIntS.l0 kq l0 x1_1 x5_1 = some r) ∧ Aside0 (kq ≤ k) ∧ Drawn0 w w')
 case atStart=>exact ⟨(a1),(0),Yd,Yd,H',⟨Nat.le_refl _⟩,by repeat (first|exact Drawn0.refl _|apply Drawn0.step)⟩
 case round =>
  clear H'
  try clear c2
  try clear p2
  obtain ⟨x1_1,x5_1,rfl,rfl,HA,HK1,⟨m1,rfl⟩⟩:=hrel
  cases gk with
  | zero=>exact absurd HA.out (by simp [laws_heldIntS.l0])
  | succ k1 =>
   have H:=HA.out
   clear HA
   simp only [laws_heldIntS.l0] at H
   by_cases c3:x5_1 < (l0.length:Int)
   ·rw [if_pos c3] at H
    have c3b0:=decide_eq_true c3
    clear c3
    by_cases c4:0 ≤ x5_1
    ·rw [if_pos c4] at H
     have c4b0:=decide_eq_true c4
     clear c4
     by_cases c5:(rd l0 x5_1) = x1_1
     ·rw [if_pos c5] at H
      have c5b0:((rd l0 x5_1) == x1_1) = true:=beq_iff_eq.mpr c5
      have c5b1:((rd l0 x5_1) != x1_1) = false:=bne_eq_false_iff_eq.mpr c5
      clear c5
      have H':=Aside0.mk H
      clear H
      have p126:0 ≤ (x5_1:Int):=oD
      have q126:x5_1 < (l0.length:Int):=oD
      obtain ⟨ad126,e126,hx126_0⟩:=Kd.at_int HR0.out x5_1 p126 q126
      cases e126
      replace p126:=eq_true p126
      replace q126:=eq_true q126
      go_wp2
      go_roundg k1
      case measure=>have:=HK1.out;omega
      case rel=>exact ⟨(wrap64 (x1_1 + 1)),(wrap64 (x5_1 + 1)),Yd,Yd,H',⟨by have:=HK1.out;omega⟩,by repeat (first|exact Drawn0.refl _|apply Drawn0.step)⟩
     ·rw [if_neg c5] at H
      have c5b0:((rd l0 x5_1) == x1_1) = false:=beq_eq_false_iff_ne.mpr c5
      have c5b1:((rd l0 x5_1) != x1_1) = true:=bne_iff_ne.mpr c5
      obtain rfl:=Option.some.inj H
      have p126:0 ≤ (x5_1:Int):=oD
      have q126:x5_1 < (l0.length:Int):=oD
      obtain ⟨ad126,e126,hx126_0⟩:=Kd.at_int HR0.out x5_1 p126 q126
      cases e126
      replace p126:=eq_true p126
      replace q126:=eq_true q126
      go_wp2
      go_ret
      exact ⟨by first|rfl|(simp;done)|(simp [*];done),by repeat (first|exact Drawn0.refl _|apply Drawn0.step)⟩
    ·rw [if_neg c4] at H
     exact absurd H (by simp)
   ·rw [if_neg c3] at H
    have c3b0:decide (x5_1 < (l0.length:Int)) = false:=decide_eq_false c3
    clear c3
    obtain rfl:=Option.some.inj H
    go_wp2
    go_ret
    exact ⟨by first|rfl|(simp;done)|(simp [*];done),by repeat (first|exact Drawn0.refl _|apply Drawn0.step)⟩

end Go.Proofs.Ytlgnanbnicmdaab.QFnExactReadClause
