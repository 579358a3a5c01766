-- Written by this session's own program (wip/x/xprint.py, over the kit's printer); Lean checks it.
import Derived.Test.YtmgkflkfoccgkaaQFnTidiedx0
import Derived.Test.YtmgkflkfoccgkaaQFnTidiedx16
namespace Go.Proofs.Ytmgkflkfoccgkaa.QFnTidied
open Go.RowKit Go.Proofs.YtmgkflkfoccgkaaW.PrintWords Go.Proofs.YtmgkflkfoccgkaaW.PrintLast Go.Proofs.YtmgkflkfoccgkaaW.PrintMore
attribute [local go_sem] max2_int min2_int max_two min_two max_three min_three max_four min_four   -- for this text's walks alone
set_option linter.unusedVariables false
set_option linter.unusedSimpArgs false

/-! ### laws_sameLits: function 25 -/
def laws_sameLits.l0:Nat → List (S83) → List (S83) → Int → Int → Option (Bool)
 | 0,_,_,_,_=>none
 | k + 1,x0,x1,x12,x13=>if x13 < x12 then (if 0 ≤ x13 then (if x13 < (x0.length:Int) then (if x13 < (x1.length:Int) then (if (((rd_T83 x0 x13).f0) != ((rd_T83 x1 x13).f0)) = true then (none) else ((laws_sameTerm.f k ((rd_T83 x0 x13).f1) ((rd_T83 x1 x13).f1)).bind fun t483=>(if t483 = true then ((laws_sameTerm.f k ((rd_T83 x0 x13).f2) ((rd_T83 x1 x13).f2)).bind fun t486=>(if t486 = true then (laws_sameLits.l0 k x0 x1 x12 (wrap64 (x13 + 1))) else (none))) else (none)))) else (none)) else (none)) else (none)) else (some true)
def laws_sameLits.f (k:Nat) (l0:List (S83)) (l1:List (S83)):Option (Bool):=if (l0.length:Int) = (l1.length:Int) then (laws_sameLits.l0 k l0 l1 (l0.length:Int) 0) else (none)
theorem laws_sameLits.mono_l:∀ k,(∀ y0 y1 y2 y3,LeO (laws_sameLits.l0 k y0 y1 y2 y3) (laws_sameLits.l0 (k + 1) y0 y1 y2 y3))
 | 0=>fun _ _ _ _ r h=>by simp [laws_sameLits.l0] at h
 | k + 1=>by
  have ih0:=laws_sameLits.mono_l k
  ·intro y0 y1 y2 y3
   unfold laws_sameLits.l0
   have m0:=@laws_sameTerm.mono
   exact mO
theorem laws_sameLits.mono:∀ a0 a1 k,LeO (laws_sameLits.f k a0 a1) (laws_sameLits.f (k + 1) a0 a1):=by
 intro a0 a1 k
 have ih0:=laws_sameLits.mono_l k
 unfold laws_sameLits.f
 have m0:=@laws_sameTerm.mono
 exact mO
def laws_sameLits.T6:Bool × List (List Nat × List Nat):=(true,[([],[]),([],[]),([0,1],[0,1]),([2],[2]),([3],[3]),([],[]),([],[]),([5,6],[5,6]),([7],[7]),([8],[8]),([4,9],[4,9]),([10],[10]),([11],[11]),([11],[11]),([12,13,11],[11,12,13]),([14,11],[11,14]),([15,11],[11,15]),([11],[11]),([11],[11]),([17,18,11],[11,17,18]),([19,11],[11,19]),([20,11],[11,20]),([16,21,11,11],[11,16,21]),([22,11],[11,22]),([11,23],[11,23]),([24,22],[24]),([25],[25]),([25],[25]),([26,27,25],[25,26,27]),([28,25],[25,28]),([29,25],[25,29]),([25],[25]),([25],[25]),([31,32,25],[25,31,32]),([33,25],[25,33]),([34,25],[25,34]),([30,35,25,25],[25,30,35]),([36,25],[25,36]),([25,37],[25,37])])
def laws_sameLits.B6:List Nat:=[0,0,3,7,15,0,0,96,224,480,1023,2047,4095,4095,16383,32767,65535,4095,4095,397311,921599,1970175,4194303,8388607,16777215,33554431,67108863,67108863,268435455,536870911,1073741823,67108863,67108863,6509559807,15099494399,32279363583,68719476735,137438953471,274877906943]
theorem laws_sameLits.tab6:rtab .any (opsOf Try.f25 6) = laws_sameLits.T6:=by kernel_rfl
theorem laws_sameLits.bits6:waitsOk laws_sameLits.T6.2 laws_sameLits.B6 = true:=by kernel_rfl
set_option maxHeartbeats 8000000 in
set_option maxRecDepth 100000 in
theorem laws_sameLits.calls (k:Nat) (A0:Option Addr) (c0:Nat) (l0:List (S83)) (A1:Option Addr) (c1:Nat) (l1:List (S83)) (r:Bool) (w:World) (hr0:Kd.C k83 w A0 l0.length l0) (hc0:l0.length ≤ c0) (hr1:Kd.C k83 w A1 l1.length l1) (hc1:l1.length ≤ c1) (h:laws_sameLits.f k l0 l1 = some r) :
  Calls Try.prog 25 #[.slice A0 l0.length c0,.slice A1 l1.length c1] w fun e w'=>e = .returned (.bool r) ∧ Below w.heap.size w w':=by
 have HR0:=Aside0.mk hr0
 have HC0:=Aside0.mk hc0
 clear hr0 hc0
 have HR1:=Aside0.mk hr1
 have HC1:=Aside0.mk hc1
 clear hr1 hc1
 have HB:=Aside0.mk (Below.refl w.heap.size w)
 have H:(if (l0.length:Int) = (l1.length:Int) then (laws_sameLits.l0 k l0 l1 (l0.length:Int) 0) else (none)) = some r:=h
 clear h
 replace H:=gJ H;obtain ⟨c3,H⟩:=H
 have c3b0:((l0.length:Int) == (l1.length:Int)) = true:=beq_iff_eq.mpr c3
 have c3b1:((l0.length:Int) != (l1.length:Int)) = false:=bne_eq_false_iff_eq.mpr c3
 have c3b2:(l0.length == l1.length) = true:=by first|simpa using c3|(simp at c3 ⊢;omega)
 clear c3
 have H':=Aside0.mk H
 clear H
 go_enter Try.func25,Try.ntmps25
 go_wp2
 go_loopg [13] k (fun kq v13 w'=>∃ (x13_1:Int),v13 = .int .i64 x13_1 ∧ Aside0 (laws_sameLits.l0 kq l0 l1 (l0.length:Int) x13_1 = some r) ∧ Aside0 (kq ≤ k) ∧ Aside0 (Below w.heap.size w w'))
 case atStart=>exact ⟨(0),Yd,H',⟨Nat.le_refl _⟩,⟨bH⟩⟩
 case round =>
  clear H'
  (try clear c1);(try clear c3);(try clear c3b0);(try clear c3b1);(try clear c3b2)
  obtain ⟨x13_1,rfl,HA,HK1,HB⟩:=hrel
  cases gk with
  | zero=>exact absurd HA.out (by simp [laws_sameLits.l0])
  | succ k1 =>
   have H:=HA.out
   clear HA
   simp only [laws_sameLits.l0] at H
   by_cases c4:x13_1 < (l0.length:Int)
   ·rw [if_pos c4] at H
    have c4b0:=decide_eq_true c4
    clear c4
    replace H:=gI H;obtain ⟨c5b0,H⟩:=H
    replace H:=gI H;obtain ⟨c6b0,H⟩:=H
    replace H:=gI H;obtain ⟨c7b0,H⟩:=H
    by_cases c8:(((rd_T83 l0 x13_1).f0) != ((rd_T83 l1 x13_1).f0)) = true
    ·rw [if_pos c8] at H
     exact absurd H (by simp)
    ·rw [if_neg c8] at H
     have c8b0:(((rd_T83 l0 x13_1).f0) != ((rd_T83 l1 x13_1).f0)) = false:=by simpa using c8
     (try (have c8b1:decide (((rd_T83 l0 x13_1).f0) = ((rd_T83 l1 x13_1).f0)) = true:=by simpa using c8))
     (try (have c8b2:(((rd_T83 l0 x13_1).f0) == ((rd_T83 l1 x13_1).f0)) = true:=by simpa using c8))
     clear c8
     replace H:=bI H;obtain ⟨t483,A10,H⟩:=H
     by_cases c11:t483 = true
     ·subst c11
      replace H:=pT H
      replace H:=bI H;obtain ⟨t486,A12,H⟩:=H
      by_cases c13:t486 = true
      ·subst c13
       replace H:=pT H
       have H':=Aside0.mk H
       clear H
       try go_wp2
       replace HB:=Aside0.mk (below_drew1 HB.out)
       have p479:0 ≤ (x13_1:Int):=oD
       have q479:x13_1 < (l0.length:Int):=oD
       obtain ⟨ad479,A479_1,c479_1,A479_2,c479_2,e479,hx479_0,hx479_1,hx479_2,hl479_1,hi479_1,hl479_2,hi479_2⟩:=at_T83 HR0.out x13_1 p479 q479
       have hw479_2:=hx479_2
       have hw479_1:=hx479_1
       have hw479_0:=hx479_0
       cases e479
       replace hx479_0:=(HB.out.cell (World.block_lt_of_cell? w _ hx479_0)).trans hx479_0
       replace hx479_1:=(HB.out.cell (World.block_lt_of_cell? w _ hx479_1)).trans hx479_1
       replace hx479_2:=(HB.out.cell (World.block_lt_of_cell? w _ hx479_2)).trans hx479_2
       have HR479_1:=Aside0.mk hi479_1
       have HC479_1:=Aside0.mk hl479_1
       clear hi479_1 hl479_1
       have HR479_2:=Aside0.mk hi479_2
       have HC479_2:=Aside0.mk hl479_2
       clear hi479_2 hl479_2
       replace p479:=eq_true p479
       replace q479:=eq_true q479
       have p480:0 ≤ (x13_1:Int):=oD
       have q480:x13_1 < (l1.length:Int):=oD
       obtain ⟨ad480,A480_1,c480_1,A480_2,c480_2,e480,hx480_0,hx480_1,hx480_2,hl480_1,hi480_1,hl480_2,hi480_2⟩:=at_T83 HR1.out x13_1 p480 q480
       have hw480_2:=hx480_2
       have hw480_1:=hx480_1
       have hw480_0:=hx480_0
       cases e480
       replace hx480_0:=(HB.out.cell (World.block_lt_of_cell? w _ hx480_0)).trans hx480_0
       replace hx480_1:=(HB.out.cell (World.block_lt_of_cell? w _ hx480_1)).trans hx480_1
       replace hx480_2:=(HB.out.cell (World.block_lt_of_cell? w _ hx480_2)).trans hx480_2
       have HR480_1:=Aside0.mk hi480_1
       have HC480_1:=Aside0.mk hl480_1
       clear hi480_1 hl480_1
       have HR480_2:=Aside0.mk hi480_2
       have HC480_2:=Aside0.mk hl480_2
       clear hi480_2 hl480_2
       replace p480:=eq_true p480
       replace q480:=eq_true q480
       have p481:0 ≤ (x13_1:Int):=oD
       have q481:x13_1 < (l0.length:Int):=oD
       obtain ⟨ad481,A481_1,c481_1,A481_2,c481_2,e481,hx481_0,hx481_1,hx481_2,hl481_1,hi481_1,hl481_2,hi481_2⟩:=at_T83 HR0.out x13_1 p481 q481
       have hw481_2:=hx481_2
       have hw481_1:=hx481_1
       have hw481_0:=hx481_0
       obtain rfl:ad479 = ad481:=(by injection e481)
       replace hx481_0:=(HB.out.cell (World.block_lt_of_cell? w _ hx481_0)).trans hx481_0
       replace hx481_1:=(HB.out.cell (World.block_lt_of_cell? w _ hx481_1)).trans hx481_1
       replace hx481_2:=(HB.out.cell (World.block_lt_of_cell? w _ hx481_2)).trans hx481_2
       have HR481_1:=Aside0.mk hi481_1
       have HC481_1:=Aside0.mk hl481_1
       clear hi481_1 hl481_1
       have HR481_2:=Aside0.mk hi481_2
       have HC481_2:=Aside0.mk hl481_2
       clear hi481_2 hl481_2
       replace p481:=eq_true p481
       replace q481:=eq_true q481
       have ea_:=Option.some.inj (hx479_1.symm.trans hx481_1)
       injection ea_ with ea_ en_ ec_
       subst ea_
       subst ec_
       clear en_
       have ea_:=Option.some.inj (hx479_2.symm.trans hx481_2)
       injection ea_ with ea_ en_ ec_
       subst ea_
       subst ec_
       clear en_
       have p482:0 ≤ (x13_1:Int):=oD
       have q482:x13_1 < (l1.length:Int):=oD
       obtain ⟨ad482,A482_1,c482_1,A482_2,c482_2,e482,hx482_0,hx482_1,hx482_2,hl482_1,hi482_1,hl482_2,hi482_2⟩:=at_T83 HR1.out x13_1 p482 q482
       have hw482_2:=hx482_2
       have hw482_1:=hx482_1
       have hw482_0:=hx482_0
       obtain rfl:ad480 = ad482:=(by injection e482)
       replace hx482_0:=(HB.out.cell (World.block_lt_of_cell? w _ hx482_0)).trans hx482_0
       replace hx482_1:=(HB.out.cell (World.block_lt_of_cell? w _ hx482_1)).trans hx482_1
       replace hx482_2:=(HB.out.cell (World.block_lt_of_cell? w _ hx482_2)).trans hx482_2
       have HR482_1:=Aside0.mk hi482_1
       have HC482_1:=Aside0.mk hl482_1
       clear hi482_1 hl482_1
       have HR482_2:=Aside0.mk hi482_2
       have HC482_2:=Aside0.mk hl482_2
       clear hi482_2 hl482_2
       replace p482:=eq_true p482
       replace q482:=eq_true q482
       have ea_:=Option.some.inj (hx480_1.symm.trans hx482_1)
       injection ea_ with ea_ en_ ec_
       subst ea_
       subst ec_
       clear en_
       have ea_:=Option.some.inj (hx480_2.symm.trans hx482_2)
       injection ea_ with ea_ en_ ec_
       subst ea_
       subst ec_
       clear en_
       have p484:0 ≤ (x13_1:Int):=oD
       have q484:x13_1 < (l0.length:Int):=oD
       obtain ⟨ad484,A484_1,c484_1,A484_2,c484_2,e484,hx484_0,hx484_1,hx484_2,hl484_1,hi484_1,hl484_2,hi484_2⟩:=at_T83 HR0.out x13_1 p484 q484
       have hw484_2:=hx484_2
       have hw484_1:=hx484_1
       have hw484_0:=hx484_0
       obtain rfl:ad479 = ad484:=(by injection e484)
       replace hx484_0:=(HB.out.cell (World.block_lt_of_cell? w _ hx484_0)).trans hx484_0
       replace hx484_1:=(HB.out.cell (World.block_lt_of_cell? w _ hx484_1)).trans hx484_1
       replace hx484_2:=(HB.out.cell (World.block_lt_of_cell? w _ hx484_2)).trans hx484_2
       have HR484_1:=Aside0.mk hi484_1
       have HC484_1:=Aside0.mk hl484_1
       clear hi484_1 hl484_1
       have HR484_2:=Aside0.mk hi484_2
       have HC484_2:=Aside0.mk hl484_2
       clear hi484_2 hl484_2
       replace p484:=eq_true p484
       replace q484:=eq_true q484
       have ea_:=Option.some.inj (hx479_1.symm.trans hx484_1)
       injection ea_ with ea_ en_ ec_
       subst ea_
       subst ec_
       clear en_
       have ea_:=Option.some.inj (hx479_2.symm.trans hx484_2)
       injection ea_ with ea_ en_ ec_
       subst ea_
       subst ec_
       clear en_
       have p485:0 ≤ (x13_1:Int):=oD
       have q485:x13_1 < (l1.length:Int):=oD
       obtain ⟨ad485,A485_1,c485_1,A485_2,c485_2,e485,hx485_0,hx485_1,hx485_2,hl485_1,hi485_1,hl485_2,hi485_2⟩:=at_T83 HR1.out x13_1 p485 q485
       have hw485_2:=hx485_2
       have hw485_1:=hx485_1
       have hw485_0:=hx485_0
       obtain rfl:ad480 = ad485:=(by injection e485)
       replace hx485_0:=(HB.out.cell (World.block_lt_of_cell? w _ hx485_0)).trans hx485_0
       replace hx485_1:=(HB.out.cell (World.block_lt_of_cell? w _ hx485_1)).trans hx485_1
       replace hx485_2:=(HB.out.cell (World.block_lt_of_cell? w _ hx485_2)).trans hx485_2
       have HR485_1:=Aside0.mk hi485_1
       have HC485_1:=Aside0.mk hl485_1
       clear hi485_1 hl485_1
       have HR485_2:=Aside0.mk hi485_2
       have HC485_2:=Aside0.mk hl485_2
       clear hi485_2 hl485_2
       replace p485:=eq_true p485
       replace q485:=eq_true q485
       have ea_:=Option.some.inj (hx480_1.symm.trans hx485_1)
       injection ea_ with ea_ en_ ec_
       subst ea_
       subst ec_
       clear en_
       have ea_:=Option.some.inj (hx480_2.symm.trans hx485_2)
       injection ea_ with ea_ en_ ec_
       subst ea_
       subst ec_
       clear en_
       refine start_ (n:=39) (S:=fun w'=>w'.cell? (ad479.add ((x13_1).toNat * 3)) = some (.bool ((rd_T83 l0 x13_1).f0)) ∧ w'.cell? ⟨(ad479.add ((x13_1).toNat * 3)).block,(ad479.add ((x13_1).toNat * 3)).off + 1,none⟩ = some (.slice A479_1 ((rd_T83 l0 x13_1).f1).length c479_1) ∧ w'.cell? ⟨(ad479.add ((x13_1).toNat * 3)).block,(ad479.add ((x13_1).toNat * 3)).off + 2,none⟩ = some (.slice A479_2 ((rd_T83 l0 x13_1).f2).length c479_2) ∧ w'.cell? (ad480.add ((x13_1).toNat * 3)) = some (.bool ((rd_T83 l1 x13_1).f0)) ∧ w'.cell? ⟨(ad480.add ((x13_1).toNat * 3)).block,(ad480.add ((x13_1).toNat * 3)).off + 1,none⟩ = some (.slice A480_1 ((rd_T83 l1 x13_1).f1).length c480_1) ∧ w'.cell? ⟨(ad480.add ((x13_1).toNat * 3)).block,(ad480.add ((x13_1).toNat * 3)).off + 2,none⟩ = some (.slice A480_2 ((rd_T83 l1 x13_1).f2).length c480_2) ∧ w'.cell? (ad479.add ((x13_1).toNat * 3)) = some (.bool ((rd_T83 l0 x13_1).f0)) ∧ w'.cell? ⟨(ad479.add ((x13_1).toNat * 3)).block,(ad479.add ((x13_1).toNat * 3)).off + 1,none⟩ = some (.slice A479_1 ((rd_T83 l0 x13_1).f1).length c479_1) ∧ w'.cell? ⟨(ad479.add ((x13_1).toNat * 3)).block,(ad479.add ((x13_1).toNat * 3)).off + 2,none⟩ = some (.slice A479_2 ((rd_T83 l0 x13_1).f2).length c479_2) ∧ w'.cell? (ad480.add ((x13_1).toNat * 3)) = some (.bool ((rd_T83 l1 x13_1).f0)) ∧ w'.cell? ⟨(ad480.add ((x13_1).toNat * 3)).block,(ad480.add ((x13_1).toNat * 3)).off + 1,none⟩ = some (.slice A480_1 ((rd_T83 l1 x13_1).f1).length c480_1) ∧ w'.cell? ⟨(ad480.add ((x13_1).toNat * 3)).block,(ad480.add ((x13_1).toNat * 3)).off + 2,none⟩ = some (.slice A480_2 ((rd_T83 l1 x13_1).f2).length c480_2) ∧ w'.cell? (ad479.add ((x13_1).toNat * 3)) = some (.bool ((rd_T83 l0 x13_1).f0)) ∧ w'.cell? ⟨(ad479.add ((x13_1).toNat * 3)).block,(ad479.add ((x13_1).toNat * 3)).off + 1,none⟩ = some (.slice A479_1 ((rd_T83 l0 x13_1).f1).length c479_1) ∧ w'.cell? ⟨(ad479.add ((x13_1).toNat * 3)).block,(ad479.add ((x13_1).toNat * 3)).off + 2,none⟩ = some (.slice A479_2 ((rd_T83 l0 x13_1).f2).length c479_2) ∧ w'.cell? (ad480.add ((x13_1).toNat * 3)) = some (.bool ((rd_T83 l1 x13_1).f0)) ∧ w'.cell? ⟨(ad480.add ((x13_1).toNat * 3)).block,(ad480.add ((x13_1).toNat * 3)).off + 1,none⟩ = some (.slice A480_1 ((rd_T83 l1 x13_1).f1).length c480_1) ∧ w'.cell? ⟨(ad480.add ((x13_1).toNat * 3)).block,(ad480.add ((x13_1).toNat * 3)).off + 2,none⟩ = some (.slice A480_2 ((rd_T83 l1 x13_1).f2).length c480_2)) (ds:=[]) #[false,false,false,false,false,false,false,false,false,false,false,false,false,false,false,false,false,false,false,false,false,false,false,false,false,false,false,false,false,false,false,false,false,false,false,false,false,false,false] (by kernel_rfl) rfl rfl ⟨((HB.out.cell (World.block_lt_of_cell? w _ hw479_0)).trans hw479_0),((HB.out.cell (World.block_lt_of_cell? w _ hw479_1)).trans hw479_1),((HB.out.cell (World.block_lt_of_cell? w _ hw479_2)).trans hw479_2),((HB.out.cell (World.block_lt_of_cell? w _ hw480_0)).trans hw480_0),((HB.out.cell (World.block_lt_of_cell? w _ hw480_1)).trans hw480_1),((HB.out.cell (World.block_lt_of_cell? w _ hw480_2)).trans hw480_2),((HB.out.cell (World.block_lt_of_cell? w _ hw481_0)).trans hw481_0),((HB.out.cell (World.block_lt_of_cell? w _ hw481_1)).trans hw481_1),((HB.out.cell (World.block_lt_of_cell? w _ hw481_2)).trans hw481_2),((HB.out.cell (World.block_lt_of_cell? w _ hw482_0)).trans hw482_0),((HB.out.cell (World.block_lt_of_cell? w _ hw482_1)).trans hw482_1),((HB.out.cell (World.block_lt_of_cell? w _ hw482_2)).trans hw482_2),((HB.out.cell (World.block_lt_of_cell? w _ hw484_0)).trans hw484_0),((HB.out.cell (World.block_lt_of_cell? w _ hw484_1)).trans hw484_1),((HB.out.cell (World.block_lt_of_cell? w _ hw484_2)).trans hw484_2),((HB.out.cell (World.block_lt_of_cell? w _ hw485_0)).trans hw485_0),((HB.out.cell (World.block_lt_of_cell? w _ hw485_1)).trans hw485_1),((HB.out.cell (World.block_lt_of_cell? w _ hw485_2)).trans hw485_2)⟩ (fun hHeld=>?_);refine with_tabW laws_sameLits.tab6 laws_sameLits.bits6 (fun HT_ HW_=>?_)
       generalize wr.drew = w14 at HB HR479_1 HR479_2 HR480_1 HR480_2 HR481_1 HR481_2 HR482_1 HR482_2 HR484_1 HR484_2 HR485_1 HR485_2 hx479_0 hx479_1 hx479_2 hx480_0 hx480_1 hx480_2 hx481_0 hx481_1 hx481_2 hx482_0 hx482_1 hx482_2 hx484_0 hx484_1 hx484_2 hx485_0 hx485_1 hx485_2 hHeld ⊢
       refine pV 0 (some 16) (bs 39 1) HT_ ?_
       refine pV 1 (some 17) (bs 39 3) HT_ ?_
       refine pV 2 (some 18) (bs 39 7) HT_ ?_
       refine pV 3 (some 19) (bs 39 15) HT_ ?_
       refine pV 5 (some 21) (bs 39 47) HT_ ?_
       refine pV 6 (some 22) (bs 39 111) HT_ ?_
       refine pV 7 (some 23) (bs 39 239) HT_ ?_
       refine pV 8 (some 24) (bs 39 495) HT_ ?_
       refine take_ (i:=4) (N:=some 20) (v:=?_) (a':=?_) #[true,true,true,true,true,true,true,true,true,false,false,false,false,false,false,false,false,false,false,false,false,false,false,false,false,false,false,false,false,false,false,false,false,false,false,false,false,false,false] rfl rfl (take_ofW HT_.out HW_.out (by kernel_rfl)) (fun _ _ _ h=>h) (Or.inl ⟨by rfl,?_⟩) hHeld ?_ ?_
       rotate_left
       ·rintro w' ⟨s0,s1,s2,s3,s4,s5,s6,s7,s8,s9,s10,s11,s12,s13,s14,s15,s16,s17⟩
        go_simp
        with_reducible rfl
       rotate_left
       ·simp only [Act.put,List.setIfInBounds_toArray,List.set_cons_zero,List.set_cons_succ,i64_w,i32_w]
        rfl
       refine take_ (i:=9) (N:=some 25) (v:=?_) (a':=?_) #[true,true,true,true,true,true,true,true,true,true,false,false,false,false,false,false,false,false,false,false,false,false,false,false,false,false,false,false,false,false,false,false,false,false,false,false,false,false,false] rfl rfl (take_ofW HT_.out HW_.out (by kernel_rfl)) (fun _ _ _ h=>h) (Or.inl ⟨by rfl,?_⟩) hHeld ?_ ?_
       rotate_left
       ·rintro w' ⟨s0,s1,s2,s3,s4,s5,s6,s7,s8,s9,s10,s11,s12,s13,s14,s15,s16,s17⟩
        go_simp
        with_reducible rfl
       rotate_left
       ·simp only [Act.put,List.setIfInBounds_toArray,List.set_cons_zero,List.set_cons_succ,i64_w,i32_w]
        rfl
       refine pV 10 (some 26) (bs 39 2047) HT_ ?_
       refine pV 11 (some 27) (bs 39 4095) HT_ ?_
       refine pV 12 (some 28) (bs 39 8191) HT_ ?_
       refine pV 13 (some 29) (bs 39 16383) HT_ ?_
       refine pV 14 (some 30) (bs 39 32767) HT_ ?_
       refine pV 15 (some 31) (bs 39 65535) HT_ ?_
       refine pV 17 (some 33) (bs 39 196607) HT_ ?_
       refine pV 18 (some 34) (bs 39 458751) HT_ ?_
       refine pV 19 (some 35) (bs 39 983039) HT_ ?_
       refine pV 20 (some 36) (bs 39 2031615) HT_ ?_
       refine take_ (i:=16) (N:=some 32) (v:=?_) (a':=?_) #[true,true,true,true,true,true,true,true,true,true,true,true,true,true,true,true,true,true,true,true,true,false,false,false,false,false,false,false,false,false,false,false,false,false,false,false,false,false,false] rfl rfl (take_ofW HT_.out HW_.out (by kernel_rfl)) (fun _ _ _ h=>h) (Or.inl ⟨by rfl,?_⟩) hHeld ?_ ?_
       rotate_left
       ·rintro w' ⟨s0,s1,s2,s3,s4,s5,s6,s7,s8,s9,s10,s11,s12,s13,s14,s15,s16,s17⟩
        go_simp
        with_reducible rfl
       rotate_left
       ·simp only [Act.put,List.setIfInBounds_toArray,List.set_cons_zero,List.set_cons_succ,i64_w,i32_w]
        rfl
       refine take_ (i:=21) (N:=some 37) (v:=?_) (a':=?_) #[true,true,true,true,true,true,true,true,true,true,true,true,true,true,true,true,true,true,true,true,true,true,false,false,false,false,false,false,false,false,false,false,false,false,false,false,false,false,false] rfl rfl (take_ofW HT_.out HW_.out (by kernel_rfl)) (fun _ _ _ h=>h) (Or.inl ⟨by rfl,?_⟩) hHeld ?_ ?_
       rotate_left
       ·rintro w' ⟨s0,s1,s2,s3,s4,s5,s6,s7,s8,s9,s10,s11,s12,s13,s14,s15,s16,s17⟩
        go_simp
        with_reducible rfl
       rotate_left
       ·simp only [Act.put,List.setIfInBounds_toArray,List.set_cons_zero,List.set_cons_succ,i64_w,i32_w]
        rfl
       refine oN 22 (some 38) (bs 39 8388607) HT_ fun K hK=>?_
       refine goes_ Try.func65 (by kernel_rfl) rfl #[.slice A479_1 ((rd_T83 l0 x13_1).f1).length c479_1,.slice A480_1 ((rd_T83 l1 x13_1).f1).length c480_1] (by rfl) rfl rfl Ya ?_
       with_reducible refine (laws_sameTerm.calls k1 _ _ ((rd_T83 l0 x13_1).f1) _ _ ((rd_T83 l1 x13_1).f1) true _ ?side1 ?side2 ?side3 ?side4 A10.out).mono ?_
       (case side1=>exact sC HR481_1)
       (case side2=>exact HC481_1.out)
       (case side3=>exact sC HR482_1)
       (case side4=>exact HC482_1.out)
       rintro e w' ⟨rfl,⟨nd,rfl⟩⟩
       refine ⟨_,rfl,?_⟩
       refine hK.out _ _ ⟨((HB.out.cell (World.block_lt_of_cell? w _ hw479_0)).trans hw479_0),((HB.out.cell (World.block_lt_of_cell? w _ hw479_1)).trans hw479_1),((HB.out.cell (World.block_lt_of_cell? w _ hw479_2)).trans hw479_2),((HB.out.cell (World.block_lt_of_cell? w _ hw480_0)).trans hw480_0),((HB.out.cell (World.block_lt_of_cell? w _ hw480_1)).trans hw480_1),((HB.out.cell (World.block_lt_of_cell? w _ hw480_2)).trans hw480_2),((HB.out.cell (World.block_lt_of_cell? w _ hw481_0)).trans hw481_0),((HB.out.cell (World.block_lt_of_cell? w _ hw481_1)).trans hw481_1),((HB.out.cell (World.block_lt_of_cell? w _ hw481_2)).trans hw481_2),((HB.out.cell (World.block_lt_of_cell? w _ hw482_0)).trans hw482_0),((HB.out.cell (World.block_lt_of_cell? w _ hw482_1)).trans hw482_1),((HB.out.cell (World.block_lt_of_cell? w _ hw482_2)).trans hw482_2),((HB.out.cell (World.block_lt_of_cell? w _ hw484_0)).trans hw484_0),((HB.out.cell (World.block_lt_of_cell? w _ hw484_1)).trans hw484_1),((HB.out.cell (World.block_lt_of_cell? w _ hw484_2)).trans hw484_2),((HB.out.cell (World.block_lt_of_cell? w _ hw485_0)).trans hw485_0),((HB.out.cell (World.block_lt_of_cell? w _ hw485_1)).trans hw485_1),((HB.out.cell (World.block_lt_of_cell? w _ hw485_2)).trans hw485_2)⟩ (fun hHeld=>?_)
       clear hK K
       refine nM (N:=some 38) ?_
       refine pV 23 (some 39) (bs 39 16777215) HT_ ?_
       refine pV 24 (some 40) (bs 39 33554431) HT_ ?_
       refine pV 25 (some 41) (bs 39 67108863) HT_ ?_
       refine pV 26 (some 42) (bs 39 134217727) HT_ ?_
       refine pV 27 (some 43) (bs 39 268435455) HT_ ?_
       refine pV 28 (some 44) (bs 39 536870911) HT_ ?_
       refine pV 29 (some 45) (bs 39 1073741823) HT_ ?_
       refine pV 31 (some 47) (bs 39 3221225471) HT_ ?_
       refine pV 32 (some 48) (bs 39 7516192767) HT_ ?_
       refine pV 33 (some 49) (bs 39 16106127359) HT_ ?_
       refine pV 34 (some 50) (bs 39 33285996543) HT_ ?_
       refine take_ (i:=30) (N:=some 46) (v:=?_) (a':=?_) #[true,true,true,true,true,true,true,true,true,true,true,true,true,true,true,true,true,true,true,true,true,true,true,true,true,true,true,true,true,true,true,true,true,true,true,false,false,false,false] rfl rfl (take_ofW HT_.out HW_.out (by kernel_rfl)) (fun _ _ _ h=>h) (Or.inl ⟨by rfl,?_⟩) hHeld ?_ ?_
       rotate_left
       ·rintro w' ⟨s0,s1,s2,s3,s4,s5,s6,s7,s8,s9,s10,s11,s12,s13,s14,s15,s16,s17⟩
        go_simp
        with_reducible rfl
       rotate_left
       ·simp only [Act.put,List.setIfInBounds_toArray,List.set_cons_zero,List.set_cons_succ,i64_w,i32_w]
        rfl
       refine take_ (i:=35) (N:=some 51) (v:=?_) (a':=?_) #[true,true,true,true,true,true,true,true,true,true,true,true,true,true,true,true,true,true,true,true,true,true,true,true,true,true,true,true,true,true,true,true,true,true,true,true,false,false,false] rfl rfl (take_ofW HT_.out HW_.out (by kernel_rfl)) (fun _ _ _ h=>h) (Or.inl ⟨by rfl,?_⟩) hHeld ?_ ?_
       rotate_left
       ·rintro w' ⟨s0,s1,s2,s3,s4,s5,s6,s7,s8,s9,s10,s11,s12,s13,s14,s15,s16,s17⟩
        go_simp
        with_reducible rfl
       rotate_left
       ·simp only [Act.put,List.setIfInBounds_toArray,List.set_cons_zero,List.set_cons_succ,i64_w,i32_w]
        rfl
       refine oN 36 (some 52) (bs 39 137438953471) HT_ fun K hK=>?_
       refine goes_ Try.func65 (by kernel_rfl) rfl #[.slice A479_2 ((rd_T83 l0 x13_1).f2).length c479_2,.slice A480_2 ((rd_T83 l1 x13_1).f2).length c480_2] (by rfl) rfl rfl Ya ?_
       with_reducible refine (laws_sameTerm.calls k1 _ _ ((rd_T83 l0 x13_1).f2) _ _ ((rd_T83 l1 x13_1).f2) true _ ?side1 ?side2 ?side3 ?side4 A12.out).mono ?_
       (case side1=>repeat (first|exact (Kd.C_below HR484_2.out bH)|(with_reducible refine Kd.C_alloc ?_ _)|(with_reducible refine Kd.C_drewN ?_ _)|(with_reducible refine Kd.C_drew ?_)))
       (case side2=>exact HC484_2.out)
       (case side3=>repeat (first|exact (Kd.C_below HR485_2.out bH)|(with_reducible refine Kd.C_alloc ?_ _)|(with_reducible refine Kd.C_drewN ?_ _)|(with_reducible refine Kd.C_drew ?_)))
       (case side4=>exact HC485_2.out)
       rintro e w' ⟨rfl,⟨nd,rfl⟩⟩
       refine ⟨_,rfl,?_⟩
       refine hK.out _ _ ⟨((HB.out.cell (World.block_lt_of_cell? w _ hw479_0)).trans hw479_0),((HB.out.cell (World.block_lt_of_cell? w _ hw479_1)).trans hw479_1),((HB.out.cell (World.block_lt_of_cell? w _ hw479_2)).trans hw479_2),((HB.out.cell (World.block_lt_of_cell? w _ hw480_0)).trans hw480_0),((HB.out.cell (World.block_lt_of_cell? w _ hw480_1)).trans hw480_1),((HB.out.cell (World.block_lt_of_cell? w _ hw480_2)).trans hw480_2),((HB.out.cell (World.block_lt_of_cell? w _ hw481_0)).trans hw481_0),((HB.out.cell (World.block_lt_of_cell? w _ hw481_1)).trans hw481_1),((HB.out.cell (World.block_lt_of_cell? w _ hw481_2)).trans hw481_2),((HB.out.cell (World.block_lt_of_cell? w _ hw482_0)).trans hw482_0),((HB.out.cell (World.block_lt_of_cell? w _ hw482_1)).trans hw482_1),((HB.out.cell (World.block_lt_of_cell? w _ hw482_2)).trans hw482_2),((HB.out.cell (World.block_lt_of_cell? w _ hw484_0)).trans hw484_0),((HB.out.cell (World.block_lt_of_cell? w _ hw484_1)).trans hw484_1),((HB.out.cell (World.block_lt_of_cell? w _ hw484_2)).trans hw484_2),((HB.out.cell (World.block_lt_of_cell? w _ hw485_0)).trans hw485_0),((HB.out.cell (World.block_lt_of_cell? w _ hw485_1)).trans hw485_1),((HB.out.cell (World.block_lt_of_cell? w _ hw485_2)).trans hw485_2)⟩ (fun hHeld=>?_)
       clear hK K
       refine nM (N:=some 52) ?_
       refine pV 37 (some 53) (bs 39 274877906943) HT_ ?_
       refine pV 38 (some 54) (bs 39 549755813887) HT_ ?_
       refine done_ (done_of HT_.out (by kernel_rfl)) ?_
       try go_wp2
       go_roundg k1
       case measure=>have:=HK1.out;omega
       case rel=>exact ⟨(wrap64 (x13_1 + 1)),Yd,H',⟨YH⟩,⟨bH⟩⟩
      ·replace c13:=Bool.eq_false_iff.mpr c13
       subst c13
       rw [if_neg (by decide)] at H
       exact absurd H (by simp)
     ·replace c11:=Bool.eq_false_iff.mpr c11
      subst c11
      rw [if_neg (by decide)] at H
      exact absurd H (by simp)
   ·rw [if_neg c4] at H
    have c4b0:decide (x13_1 < (l0.length:Int)) = false:=decide_eq_false c4
    clear c4
    obtain rfl:=Option.some.inj H
    go_wp2
    go_ret
    exact ⟨Yb,bH⟩

end Go.Proofs.Ytmgkflkfoccgkaa.QFnTidied
