-- Written by this session's own program (wip/x/xprint.py, over the kit's printer); Lean checks it.
import Derived.Test.YtmgkflkfoccgkabQFnDiskx0
import Derived.Test.YtmgkflkfoccgkabQFnDiskx1
import Derived.Test.YtmgkflkfoccgkabQFnDiskx2
import Derived.Test.YtmgkflkfoccgkabQFnDiskx5
import Derived.Test.YtmgkflkfoccgkabQFnDiskx6
import Derived.Test.YtmgkflkfoccgkabQFnDiskx9
import Derived.Test.YtmgkflkfoccgkabQFnDiskx11
import Derived.Test.YtmgkflkfoccgkabQFnDiskx12
import Derived.Test.YtmgkflkfoccgkabQFnDiskx13
import Derived.Test.YtmgkflkfoccgkabQFnDiskx14
import Derived.Test.YtmgkflkfoccgkabQFnDiskx15
import Derived.Test.YtmgkflkfoccgkabQFnDiskx16
namespace Go.Proofs.Ytmgkflkfoccgkab.QFnDisk
open Go.RowKit Go.Proofs.YtmgkflkfoccgkabW.PrintWords Go.Proofs.YtmgkflkfoccgkabW.PrintLast Go.Proofs.YtmgkflkfoccgkabW.PrintMore
attribute [local go_sem] max2_int min2_int max_two min_two max_three min_three max_four min_four   -- for this text's walks alone
set_option linter.unusedVariables false
set_option linter.unusedSimpArgs false

/-! ### spec_MendDisk: function 22 -/
def spec_MendDisk.f (k:Nat) (l0_0:List ByteArray) (l0_1:List ByteArray):Option (List ByteArray × List ByteArray × Bool):=(spec_GoodDisk.f k l0_0 l0_1).bind fun t531=>(if t531 = true then (if (l0_1.length:Int) > 0 then (some (([]:List ByteArray),([]:List ByteArray),false)) else ((spec_l13Texts.f k l0_0).bind fun bt532=>((some (([]:List ByteArray):List ByteArray)).bind fun y536=>(if 0 ≤ bt532.2 then (if bt532.2 ≤ (l0_0.length:Int) then (if y536.length + (l0_0.take (bt532.2:Int).toNat).length < 8796093022208 then (some ((y536 ++ (l0_0.take (bt532.2:Int).toNat)),([]:List ByteArray),true)) else (none)) else (none)) else (none))))) else (some (([]:List ByteArray),([]:List ByteArray),false)))
theorem spec_MendDisk.mono:∀ a0 a1 k,LeO (spec_MendDisk.f k a0 a1) (spec_MendDisk.f (k + 1) a0 a1):=by
 intro a0 a1 k
 unfold spec_MendDisk.f
 have m0:=@spec_GoodDisk.mono
 have m1:=@spec_l13Texts.mono
 exact mO
set_option maxHeartbeats 8000000 in
set_option maxRecDepth 100000 in
theorem spec_MendDisk.calls (k:Nat) (A0_0:Option Addr) (c0_0:Nat) (l0_0:List ByteArray) (A0_1:Option Addr) (c0_1:Nat) (l0_1:List ByteArray) (r1:List ByteArray) (r2:List ByteArray) (r3:Bool) (w:World) (hr0_0:Kd.C Kd.string w A0_0 l0_0.length l0_0) (hc0_0:l0_0.length ≤ c0_0) (hr0_1:Kd.C Kd.string w A0_1 l0_1.length l0_1) (hc0_1:l0_1.length ≤ c0_1) (h:spec_MendDisk.f k l0_0 l0_1 = some (r1,r2,r3)) :
  Calls Try.prog 22 #[.agg #[.slice A0_0 l0_0.length c0_0,.slice A0_1 l0_1.length c0_1]] w fun e w'=>∃ v0_ v1_:Value,e = .returned (.tuple #[.agg #[v0_,v1_],.bool r3]) ∧ Kd.R Kd.string 9 w' w.heap.size (fun k_=>some k_ ≠ (v1_:Value).ownBlock) v0_ r1 ∧ Kd.R Kd.string 9 w' w.heap.size (fun k_=>some k_ ≠ (v0_:Value).ownBlock) v1_ r2 ∧ Below w.heap.size w w':=by
 have hu26:=Try.underlying26
 have HR0_0:=Aside0.mk hr0_0
 have HC0_0:=Aside0.mk hc0_0
 clear hr0_0 hc0_0
 have HR0_1:=Aside0.mk hr0_1
 have HC0_1:=Aside0.mk hc0_1
 clear hr0_1 hc0_1
 have HB:=Aside0.mk (Below.refl w.heap.size w)
 have H:((spec_GoodDisk.f k l0_0 l0_1).bind fun t531=>(if t531 = true then (if (l0_1.length:Int) > 0 then (some (([]:List ByteArray),([]:List ByteArray),false)) else ((spec_l13Texts.f k l0_0).bind fun bt532=>((some (([]:List ByteArray):List ByteArray)).bind fun y536=>(if 0 ≤ bt532.2 then (if bt532.2 ≤ (l0_0.length:Int) then (if y536.length + (l0_0.take (bt532.2:Int).toNat).length < 8796093022208 then (some ((y536 ++ (l0_0.take (bt532.2:Int).toNat)),([]:List ByteArray),true)) else (none)) else (none)) else (none))))) else (some (([]:List ByteArray),([]:List ByteArray),false)))) = some (r1,r2,r3):=h
 clear h
 replace H:=Option.bind_eq_some_iff.mp H
 obtain ⟨t531,A20,H⟩:=H
 replace H:(if t531 = true then (if (l0_1.length:Int) > 0 then (some (([]:List ByteArray),([]:List ByteArray),false)) else ((spec_l13Texts.f k l0_0).bind fun bt532=>((some (([]:List ByteArray):List ByteArray)).bind fun y536=>(if 0 ≤ bt532.2 then (if bt532.2 ≤ (l0_0.length:Int) then (if y536.length + (l0_0.take (bt532.2:Int).toNat).length < 8796093022208 then (some ((y536 ++ (l0_0.take (bt532.2:Int).toNat)),([]:List ByteArray),true)) else (none)) else (none)) else (none))))) else (some (([]:List ByteArray),([]:List ByteArray),false))) = some (r1,r2,r3):=H
 have A2:=Aside0.mk A20
 clear A20
 by_cases c3:t531 = true
 ·subst c3
  have H1:(if (l0_1.length:Int) > 0 then (some (([]:List ByteArray),([]:List ByteArray),false)) else ((spec_l13Texts.f k l0_0).bind fun bt532=>((some (([]:List ByteArray):List ByteArray)).bind fun y536=>(if 0 ≤ bt532.2 then (if bt532.2 ≤ (l0_0.length:Int) then (if y536.length + (l0_0.take (bt532.2:Int).toNat).length < 8796093022208 then (some ((y536 ++ (l0_0.take (bt532.2:Int).toNat)),([]:List ByteArray),true)) else (none)) else (none)) else (none))))) = some (r1,r2,r3):=by rw [if_pos rfl] at H;exact H
  clear H
  have H:=H1
  clear H1
  by_cases c4:(l0_1.length:Int) > 0
  ·rw [if_pos c4] at H
   have c4b0:decide (0 < (l0_1.length:Int)) = true:=decide_eq_true c4
   have c4b1:decide (0 < l0_1.length) = true:=decide_eq_true (by omega)
   clear c4
   simp only [Option.some.injEq,Prod.mk.injEq] at H
   obtain ⟨rfl,rfl,rfl⟩:=H
   go_enter Try.func22,Try.ntmps22
   go_wp2_with (first|((with_reducible refine gate_dst (N:=1) rfl ?_);(try (refine gate_guard (by rfl) ?_;dsimp only));refine box_event ?hg (N:=1) ?hd (cs:=#[.slice A0_0 l0_0.length c0_0,.slice A0_1 l0_1.length c0_1]) (t:=26) ?hr ?_;(case hd=>rfl);(case hg=>rfl);(case hr=>exact Yg);intro gb529 hg w5 hbox hb;have BK529:=Aside0.mk (hbox);have GW529:=Aside0.mk ((hZ:w.heap.size ≤ gb529));have GE529:=Aside0.mk ((hZ:w.heap.size ≤ gb529));replace HB:=Aside0.mk (below_step bH hb);clear hb hbox hg)|((with_reducible refine gate_dst (N:=2) rfl ?_);(try (refine gate_guard (by rfl) ?_;dsimp only));refine box_event ?hg (N:=2) ?hd (cs:=#[.slice none 0 0,.slice none 0 0]) (t:=26) ?hr ?_;(case hd=>rfl);(case hg=>rfl);(case hr=>exact Yg);intro gb530 hg w6 hbox hb;have BK530:=Aside0.mk (hbox);have GW530:=Aside0.mk ((hZ:w.heap.size ≤ gb530));have GE530:=Aside0.mk ((hZ:w.heap.size ≤ gb530));replace HB:=Aside0.mk (below_step bH hb);have NB529_530:=Aside0.mk ((nL BK529:gb529 ≠ gb530));have NB530_529:=Aside0.mk ((nG BK529:gb530 ≠ gb529));replace BK529:=Aside0.mk (blk_below (bB BK529) hb);clear hb hbox hg;have hnb7:=NB529_530.out;have hnc7:=NB530_529.out;have hcz8_0:w6.cell? ⟨gb529,0,none⟩ = some (.slice A0_0 l0_0.length c0_0):=(blk_cell BK529.out 0).trans rfl;have hcz8_1:w6.cell? ⟨gb529,1,none⟩ = some (.slice A0_1 l0_1.length c0_1):=(blk_cell BK529.out 1).trans rfl;have hfz8_0:=blk_frozen BK529.out 0;have hfz8_1:=blk_frozen BK529.out 1)|((with_reducible refine gate_callee (f:=12) rfl ?_);refine goesL_ (some 7) rfl rfl Try.func12 (by kernel_rfl) rfl #[.agg #[.slice A0_0 l0_0.length c0_0,.slice A0_1 l0_1.length c0_1]] rfl Ya ?_;(with_reducible refine (spec_GoodDisk.calls k _ _ l0_0 _ _ l0_1 true _ ?side1 ?side2 ?side3 ?side4 A2.out).mono ?_);(case side1=>exact ZB);(case side2=>exact ZL);(case side3=>exact ZP);(case side4=>exact ZO);rintro e w9 ⟨rfl,hb⟩;refine ⟨_,rfl,?_⟩;replace BK529:=Aside0.mk (blk_below (bB BK529) hb);replace BK530:=Aside0.mk (blk_below (bB BK530) hb);replace HB:=Aside0.mk (below_step bH hb);(try clear hb);(try clear hb2);(try clear hk);(try clear hi);have hcz10_0:w9.cell? ⟨gb529,0,none⟩ = some (.slice A0_0 l0_0.length c0_0):=(blk_cell BK529.out 0).trans rfl;have hcz10_1:w9.cell? ⟨gb529,1,none⟩ = some (.slice A0_1 l0_1.length c0_1):=(blk_cell BK529.out 1).trans rfl;have hfz10_0:=blk_frozen BK529.out 0;have hfz10_1:=blk_frozen BK529.out 1;have hcz11_0:w9.cell? ⟨gb530,0,none⟩ = some (.slice none 0 0):=(blk_cell BK530.out 0).trans rfl;have hcz11_1:w9.cell? ⟨gb530,1,none⟩ = some (.slice none 0 0):=(blk_cell BK530.out 1).trans rfl;have hfz11_0:=blk_frozen BK530.out 0;have hfz11_1:=blk_frozen BK530.out 1))
   refine bodyPost_ret (results_ct rfl _ _ gb530 26 #[.slice none 0 0,.slice none 0 0] (0,0) _ rfl YO Try.underlying26 rfl (by kernel_rfl)) rfl ?_
   exact ⟨_,_,Yb,Yd,Yd,bH⟩
  ·rw [if_neg c4] at H
   have c4b0:decide (0 < (l0_1.length:Int)) = false:=decide_eq_false c4
   have c4b1:decide (0 < l0_1.length) = false:=decide_eq_false (by omega)
   clear c4
   replace H:=Option.bind_eq_some_iff.mp H
   obtain ⟨⟨t532,t533⟩,A120,H⟩:=H
   replace H:((some (([]:List ByteArray):List ByteArray)).bind fun y536=>(if 0 ≤ t533 then (if t533 ≤ (l0_0.length:Int) then (if y536.length + (l0_0.take (t533:Int).toNat).length < 8796093022208 then (some ((y536 ++ (l0_0.take (t533:Int).toNat)),([]:List ByteArray),true)) else (none)) else (none)) else (none))) = some (r1,r2,r3):=H
   have A12:=Aside0.mk A120
   clear A120
   obtain ⟨y536,hy536⟩:∃ y_:List ByteArray,y_ = (([]:List ByteArray)):=⟨_,rfl⟩
   replace H:(if 0 ≤ t533 then (if t533 ≤ (l0_0.length:Int) then (if y536.length + (l0_0.take (t533:Int).toNat).length < 8796093022208 then (some ((y536 ++ (l0_0.take (t533:Int).toNat)),([]:List ByteArray),true)) else (none)) else (none)) else (none)) = some (r1,r2,r3):=by first|(rw [hy536];with_reducible exact H)|(have H2_:=(Option.bind_some _ _).symm.trans H;rw [hy536];with_reducible exact H2_)|(have H2_:=(Option.bind_some _ _).symm.trans H;with_reducible exact H2_)|with_reducible exact H|(rw [hy536];exact H)|exact H
   have Ny536:=Aside0.mk hy536
   clear hy536
   by_cases c13:0 ≤ t533
   ·rw [if_pos c13] at H
    have c13b0:=eq_true c13
    have c13b1:=decide_eq_true c13
    clear c13
    by_cases c14:t533 ≤ (l0_0.length:Int)
    ·rw [if_pos c14] at H
     have c14b0:=eq_true c14
     have c14b1:=decide_eq_true c14
     clear c14
     by_cases c15:y536.length + (l0_0.take (t533:Int).toNat).length < 8796093022208
     ·rw [if_pos c15] at H
      have LMc15:=Aside0.mk c15
      clear c15
      obtain ⟨y540,hy540⟩:∃ y_:List ByteArray,y_ = (y536 ++ (l0_0.take (t533:Int).toNat)):=⟨_,rfl⟩
      replace H:(some (y540,([]:List ByteArray),true)) = some (r1,r2,r3):=by first|(rw [hy540];with_reducible exact H)|(have H2_:=(Option.bind_some _ _).symm.trans H;rw [hy540];with_reducible exact H2_)|(have H2_:=(Option.bind_some _ _).symm.trans H;with_reducible exact H2_)|with_reducible exact H|(rw [hy540];exact H)|exact H
      have Ny540:=Aside0.mk hy540
      clear hy540
      simp only [Option.some.injEq,Prod.mk.injEq] at H
      obtain ⟨rfl,rfl,rfl⟩:=H
      go_enter Try.func22,Try.ntmps22
      go_wp2_with (first|((with_reducible refine gate_dst (N:=1) rfl ?_);(try (refine gate_guard (by rfl) ?_;dsimp only));refine box_event ?hg (N:=1) ?hd (cs:=#[.slice A0_0 l0_0.length c0_0,.slice A0_1 l0_1.length c0_1]) (t:=26) ?hr ?_;(case hd=>rfl);(case hg=>rfl);(case hr=>exact Yg);intro gb529 hg w16 hbox hb;have BK529:=Aside0.mk (hbox);have GW529:=Aside0.mk ((hZ:w.heap.size ≤ gb529));have GE529:=Aside0.mk ((hZ:w.heap.size ≤ gb529));replace HB:=Aside0.mk (below_step bH hb);clear hb hbox hg)|((with_reducible refine gate_dst (N:=2) rfl ?_);(try (refine gate_guard (by rfl) ?_;dsimp only));refine box_event ?hg (N:=2) ?hd (cs:=#[.slice none 0 0,.slice none 0 0]) (t:=26) ?hr ?_;(case hd=>rfl);(case hg=>rfl);(case hr=>exact Yg);intro gb530 hg w17 hbox hb;have BK530:=Aside0.mk (hbox);have GW530:=Aside0.mk ((hZ:w.heap.size ≤ gb530));have GE530:=Aside0.mk ((hZ:w.heap.size ≤ gb530));replace HB:=Aside0.mk (below_step bH hb);have NB529_530:=Aside0.mk ((nL BK529:gb529 ≠ gb530));have NB530_529:=Aside0.mk ((nG BK529:gb530 ≠ gb529));replace BK529:=Aside0.mk (blk_below (bB BK529) hb);clear hb hbox hg;have hnb18:=NB529_530.out;have hnc18:=NB530_529.out;have hcz19_0:w17.cell? ⟨gb529,0,none⟩ = some (.slice A0_0 l0_0.length c0_0):=(blk_cell BK529.out 0).trans rfl;have hcz19_1:w17.cell? ⟨gb529,1,none⟩ = some (.slice A0_1 l0_1.length c0_1):=(blk_cell BK529.out 1).trans rfl;have hfz19_0:=blk_frozen BK529.out 0;have hfz19_1:=blk_frozen BK529.out 1)|((with_reducible refine gate_callee (f:=12) rfl ?_);refine goesL_ (some 7) rfl rfl Try.func12 (by kernel_rfl) rfl #[.agg #[.slice A0_0 l0_0.length c0_0,.slice A0_1 l0_1.length c0_1]] rfl Ya ?_;(with_reducible refine (spec_GoodDisk.calls k _ _ l0_0 _ _ l0_1 true _ ?side1 ?side2 ?side3 ?side4 A2.out).mono ?_);(case side1=>exact ZB);(case side2=>exact ZL);(case side3=>exact ZP);(case side4=>exact ZO);rintro e w20 ⟨rfl,hb⟩;refine ⟨_,rfl,?_⟩;replace BK529:=Aside0.mk (blk_below (bB BK529) hb);replace BK530:=Aside0.mk (blk_below (bB BK530) hb);replace HB:=Aside0.mk (below_step bH hb);(try clear hb);(try clear hb2);(try clear hk);(try clear hi);have hcz21_0:w20.cell? ⟨gb529,0,none⟩ = some (.slice A0_0 l0_0.length c0_0):=(blk_cell BK529.out 0).trans rfl;have hcz21_1:w20.cell? ⟨gb529,1,none⟩ = some (.slice A0_1 l0_1.length c0_1):=(blk_cell BK529.out 1).trans rfl;have hfz21_0:=blk_frozen BK529.out 0;have hfz21_1:=blk_frozen BK529.out 1)|((with_reducible refine gate_callee (f:=56) rfl ?_);refine goesL_ (some 19) rfl rfl Try.func56 (by kernel_rfl) rfl #[.slice A0_0 l0_0.length c0_0] rfl Ya ?_;(with_reducible refine (spec_l13Texts.calls k _ _ l0_0 t532 t533 _ ?side1 ?side2 A12.out).mono ?_);(case side1=>exact ZB);(case side2=>exact ZL);rintro e w22 ⟨v534,rfl,ho0,hb⟩;refine ⟨_,rfl,?_⟩;have HO535:=Aside0.mk (Kd.R_lower ho0 (below_size bH));replace BK529:=Aside0.mk (blk_below (bB BK529) hb);replace BK530:=Aside0.mk (blk_below (bB BK530) hb);replace HB:=Aside0.mk (below_step bH hb);(try clear hb);(try clear hb2);(try clear hk);(try clear hi);(try clear ho0))|((with_reducible refine gate_dst (N:=22) rfl ?_);(try (refine gate_guard (by rfl) ?_;dsimp only));refine Kd.R_lit Kd.string _ 9 ?hg (N:=22) ?hd (xs:=([]:List ByteArray)) (inner:=[]) (ok:=fun _=>True) (okp:=fun _=>True) ?hr ?hp (fun _ hk=>hk) trivial (Below.refl _ _) (Nat.le_refl _) (by simp) ?_;(case hd=>rfl);(case hg=>rfl);(case hr=>exact Yg);(case hp=>exact ZN);intro v537 w23 ho24 hb hg_ hnew_;clear hg_ hnew_;(first|rw [← Ny536.out] at ho24|(simp only [Int.reduceToNat] at ho24;rw [← Ny536.out] at ho24));have HO538:=Aside0.mk (Kd.R_lower (Kd.R_new' ho24 (Kd.R_lt (rR HO535))) (below_size bH));replace HO535:=Aside0.mk (Kd.R_elder' (rR HO535) (Kd.R_base ho24) hb);replace BK529:=Aside0.mk (blk_below (bB BK529) hb);replace BK530:=Aside0.mk (blk_below (bB BK530) hb);replace HB:=Aside0.mk (below_step bH hb);clear hb ho24;have hcz25_0:w23.cell? ⟨gb529,0,none⟩ = some (.slice A0_0 l0_0.length c0_0):=(blk_cell BK529.out 0).trans rfl;have hcz25_1:w23.cell? ⟨gb529,1,none⟩ = some (.slice A0_1 l0_1.length c0_1):=(blk_cell BK529.out 1).trans rfl;have hfz25_0:=blk_frozen BK529.out 0;have hfz25_1:=blk_frozen BK529.out 1;obtain ⟨i026,hi026,_,hsz26,_⟩:=info_parts info9;obtain ⟨hcut26,hA26,hC26⟩:=print_take_of (P:=Try.prog) Value.string (⟨#[]⟩:ByteArray) 24 9 .i64 Try.underlying24 hi026 hsz26 A0_0 c0_0 l0_0 t533 (oD) (oD) HC0_0.out;have HR539:=Aside0.mk (Kd.C_of_reads (h1:=fun _=>rfl) (hA26 _ (Kd.reads_of_C HR0_0.out)));have HC539:=Aside0.mk hC26;clear hA26 hC26 hi026 hsz26)|((with_reducible refine gate_builtin (b:=.append) (xs:=#[.tmp 22,.tmp 26]) rfl ?_);(try (refine gate_guard (by rfl) ?_;dsimp only));at_builtin;refine Kd.R_append_rows Kd.string (w0:=w) w.heap.size rfl (.tmp 22) (.tmp 26) 24 9 (.string ⟨#[]⟩) 16 rfl Try.underlying24 info9 rfl (by decide) Yy v537 y536 (l0_0.take (t533:Int).toNat) _ _ _ (fun k_=>some k_ ≠ (v534:Value).ownBlock) (fun _=>False) rfl rfl ?aO ?aR (fun _ _ h=>h) (fun _ h=>h.elim) ?aF ?aB ?aS ?aL ?_;(case aR=>first|(have q_:=Kd.C_below HR539.out HB.out;rw [show (l0_0.take (t533:Int).toNat).length = t533.toNat from (by rw [List.length_take];have h_:(t533:Int) ≤ (l0_0.length:Int):=oD;omega)] at q_;exact q_)|(rw [← show (l0_0.take (t533:Int).toNat).length = t533.toNat from (by rw [List.length_take];have h_:(t533:Int) ≤ (l0_0.length:Int):=oD;omega)];repeat (first|exact (Kd.C_below HR539.out HB.out)|(with_reducible refine Kd.C_alloc ?_ _)|(with_reducible refine Kd.C_drewN ?_ _)|(with_reducible refine Kd.C_drew ?_)))|(repeat (first|exact (Kd.C_below HR539.out HB.out)|(with_reducible refine Kd.C_alloc ?_ _)|(with_reducible refine Kd.C_drewN ?_ _)|(with_reducible refine Kd.C_drew ?_))));(case aB=>exact bH);(case aF=>exact (fun k_ hk=>Kd.fresh' (Kd.R_lt (rR HO535)) k_ hk));(case aO=>exact (by (with_reducible repeat (first|apply Kd.R_alloc|apply Kd.R_drewN|apply Kd.R_drew));exact Kd.R_mono HO538.out (fun _ hk=>hk.2)));(case aS=>exact YB);(case aL=>have:=LMc15.out;have hlx_:=(show (l0_0.take (t533:Int).toNat).length = t533.toNat from (by rw [List.length_take];have h_:(t533:Int) ≤ (l0_0.length:Int):=oD;omega));omega);intro v541 w27 ho hb hg hat;rw [← Ny540.out] at ho;have n0_:=Aside0.mk (blk_grown (bB BK529) hg (Kd.R_ne HO538.out BK529.out (by decide)));have n1_:=Aside0.mk (blk_grown (bB BK530) hg (Kd.R_ne HO538.out BK530.out (by decide)));have n2_:=Aside0.mk (Kd.R_after (ok:=(fun _=>True)) (rR HO535) hg hat);have n3_:=Aside0.mk (hb);have n4_:=Aside0.mk (ho);clear BK529;clear BK530;clear HO535;clear HB;clear HO538;have BK529:=n0_;have BK530:=n1_;have HO535:=n2_;have HB:=n3_;have HO542:=n4_;clear n0_ n1_ n2_ n3_ n4_;clear ho hb hg hat;obtain ⟨Ao28,co28,eo28⟩:=Kd.R_slice HO542.out;subst eo28;have hcz29_0:w27.cell? ⟨gb530,0,none⟩ = some (.slice none 0 0):=(blk_cell BK530.out 0).trans rfl;have hcz29_1:w27.cell? ⟨gb530,1,none⟩ = some (.slice none 0 0):=(blk_cell BK530.out 1).trans rfl;have hfz29_0:=blk_frozen BK530.out 0;have hfz29_1:=blk_frozen BK530.out 1))
      refine bodyPost_ret (results_ct rfl _ _ gb530 26 #[.slice Ao28 y540.length co28,.slice none 0 0] (0,0) _ rfl (by (with_reducible repeat (first|refine blk_drewN ?_ _|refine blk_drew ?_|refine blk_alloc ?_ _));refine blk_put (cs:=#[.slice Ao28 y540.length co28,.slice none 0 0]) ?_ 1 _ rfl;(with_reducible repeat (first|refine blk_drewN ?_ _|refine blk_drew ?_|refine blk_alloc ?_ _));refine blk_put (cs:=#[.slice none 0 0,.slice none 0 0]) ?_ 0 _ rfl;(with_reducible repeat (first|refine blk_drewN ?_ _|refine blk_drew ?_|refine blk_alloc ?_ _));exact BK530.out) Try.underlying26 rfl (by kernel_rfl)) rfl ?_
      exact ⟨_,_,Yb,by (with_reducible repeat (first|apply Kd.R_alloc|apply Kd.R_drewN|apply Kd.R_drew));exact Kd.R_mono (Kd.R_far (p:=⟨gb530,1,none⟩) (Kd.R_far (p:=⟨gb530,0,none⟩) (Kd.R_types HO542.out BK530.out (by decide)) (fun _ hk=>hk.2) (.slice Ao28 y540.length co28)) (fun _ hk=>hk.2) (.slice none 0 0)) (fun _ hk=>ZR),Yd,bH⟩
     ·rw [if_neg c15] at H
      exact absurd H (by simp)
    ·rw [if_neg c14] at H
     exact absurd H (by simp)
   ·rw [if_neg c13] at H
    exact absurd H (by simp)
 ·replace c3:=Bool.eq_false_iff.mpr c3
  subst c3
  have H1:(some (([]:List ByteArray),([]:List ByteArray),false)) = some (r1,r2,r3):=by rw [if_neg (show ¬ (false = true) by decide)] at H;exact H
  clear H
  have H:=H1
  clear H1
  simp only [Option.some.injEq,Prod.mk.injEq] at H
  obtain ⟨rfl,rfl,rfl⟩:=H
  go_enter Try.func22,Try.ntmps22
  go_wp2_with (first|((with_reducible refine gate_dst (N:=1) rfl ?_);(try (refine gate_guard (by rfl) ?_;dsimp only));refine box_event ?hg (N:=1) ?hd (cs:=#[.slice A0_0 l0_0.length c0_0,.slice A0_1 l0_1.length c0_1]) (t:=26) ?hr ?_;(case hd=>rfl);(case hg=>rfl);(case hr=>exact Yg);intro gb529 hg w30 hbox hb;have BK529:=Aside0.mk (hbox);have GW529:=Aside0.mk ((hZ:w.heap.size ≤ gb529));have GE529:=Aside0.mk ((hZ:w.heap.size ≤ gb529));replace HB:=Aside0.mk (below_step bH hb);clear hb hbox hg)|((with_reducible refine gate_dst (N:=2) rfl ?_);(try (refine gate_guard (by rfl) ?_;dsimp only));refine box_event ?hg (N:=2) ?hd (cs:=#[.slice none 0 0,.slice none 0 0]) (t:=26) ?hr ?_;(case hd=>rfl);(case hg=>rfl);(case hr=>exact Yg);intro gb530 hg w31 hbox hb;have BK530:=Aside0.mk (hbox);have GW530:=Aside0.mk ((hZ:w.heap.size ≤ gb530));have GE530:=Aside0.mk ((hZ:w.heap.size ≤ gb530));replace HB:=Aside0.mk (below_step bH hb);have NB529_530:=Aside0.mk ((nL BK529:gb529 ≠ gb530));have NB530_529:=Aside0.mk ((nG BK529:gb530 ≠ gb529));replace BK529:=Aside0.mk (blk_below (bB BK529) hb);clear hb hbox hg;have hnb32:=NB529_530.out;have hnc32:=NB530_529.out;have hcz33_0:w31.cell? ⟨gb529,0,none⟩ = some (.slice A0_0 l0_0.length c0_0):=(blk_cell BK529.out 0).trans rfl;have hcz33_1:w31.cell? ⟨gb529,1,none⟩ = some (.slice A0_1 l0_1.length c0_1):=(blk_cell BK529.out 1).trans rfl;have hfz33_0:=blk_frozen BK529.out 0;have hfz33_1:=blk_frozen BK529.out 1)|((with_reducible refine gate_callee (f:=12) rfl ?_);refine goesL_ (some 7) rfl rfl Try.func12 (by kernel_rfl) rfl #[.agg #[.slice A0_0 l0_0.length c0_0,.slice A0_1 l0_1.length c0_1]] rfl Ya ?_;(with_reducible refine (spec_GoodDisk.calls k _ _ l0_0 _ _ l0_1 false _ ?side1 ?side2 ?side3 ?side4 A2.out).mono ?_);(case side1=>exact ZB);(case side2=>exact ZL);(case side3=>exact ZP);(case side4=>exact ZO);rintro e w34 ⟨rfl,hb⟩;refine ⟨_,rfl,?_⟩;replace BK529:=Aside0.mk (blk_below (bB BK529) hb);replace BK530:=Aside0.mk (blk_below (bB BK530) hb);replace HB:=Aside0.mk (below_step bH hb);(try clear hb);(try clear hb2);(try clear hk);(try clear hi);have hcz35_0:w34.cell? ⟨gb530,0,none⟩ = some (.slice none 0 0):=(blk_cell BK530.out 0).trans rfl;have hcz35_1:w34.cell? ⟨gb530,1,none⟩ = some (.slice none 0 0):=(blk_cell BK530.out 1).trans rfl;have hfz35_0:=blk_frozen BK530.out 0;have hfz35_1:=blk_frozen BK530.out 1))
  refine bodyPost_ret (results_ct rfl _ _ gb530 26 #[.slice none 0 0,.slice none 0 0] (0,0) _ rfl YO Try.underlying26 rfl (by kernel_rfl)) rfl ?_
  exact ⟨_,_,Yb,Yd,Yd,bH⟩

/-! ### spec_DrawSyncDisk: function 23 -/
def spec_DrawSyncDisk.f (k:Nat) (l0:List Int):Option (List ByteArray × List ByteArray):=(spec_DrawGoodDisk.f k l0).bind fun bt544=>(some (bt544.1,bt544.2))
theorem spec_DrawSyncDisk.mono:∀ a0 k,LeO (spec_DrawSyncDisk.f k a0) (spec_DrawSyncDisk.f (k + 1) a0):=by
 intro a0 k
 unfold spec_DrawSyncDisk.f
 have m0:=@spec_DrawGoodDisk.mono
 exact mO
set_option maxHeartbeats 8000000 in
set_option maxRecDepth 100000 in
theorem spec_DrawSyncDisk.calls (k:Nat) (A0:Option Addr) (c0:Nat) (l0:List Int) (r1:List ByteArray) (r2:List ByteArray) (w:World) (hr0:Kd.C (Kd.int .u8) w A0 l0.length l0) (hc0:l0.length ≤ c0) (h:spec_DrawSyncDisk.f k l0 = some (r1,r2)) :
  Calls Try.prog 23 #[.slice A0 l0.length c0] w fun e w'=>∃ v0_ v1_:Value,e = .returned (.agg #[v0_,v1_]) ∧ Kd.R Kd.string 9 w' w.heap.size (fun k_=>some k_ ≠ (v1_:Value).ownBlock) v0_ r1 ∧ Kd.R Kd.string 9 w' w.heap.size (fun k_=>some k_ ≠ (v0_:Value).ownBlock) v1_ r2 ∧ Below w.heap.size w w':=by
 have hu26:=Try.underlying26
 have HR0:=Aside0.mk hr0
 have HC0:=Aside0.mk hc0
 clear hr0 hc0
 have HB:=Aside0.mk (Below.refl w.heap.size w)
 have H:((spec_DrawGoodDisk.f k l0).bind fun bt544=>(some (bt544.1,bt544.2))) = some (r1,r2):=h
 clear h
 replace H:=Option.bind_eq_some_iff.mp H
 obtain ⟨⟨t544,t547⟩,A20,H⟩:=H
 replace H:(some (t544,t547)) = some (r1,r2):=H
 have A2:=Aside0.mk A20
 clear A20
 simp only [Option.some.injEq,Prod.mk.injEq] at H
 obtain ⟨rfl,rfl⟩:=H
 go_enter Try.func23,Try.ntmps23
 go_wp2_with (first|((with_reducible refine gate_dst (N:=2) rfl ?_);refine box_event ?hg (N:=2) ?hd (cs:=#[.slice none 0 0,.slice none 0 0]) (t:=26) ?hr ?_;(case hd=>rfl);(case hg=>rfl);(case hr=>exact Yg);intro gb543 hg w3 hbox hb;have BK543:=Aside0.mk (hbox);have GW543:=Aside0.mk ((hZ:w.heap.size ≤ gb543));have GE543:=Aside0.mk ((hZ:w.heap.size ≤ gb543));replace HB:=Aside0.mk (below_step bH hb);clear hb hbox hg)|((with_reducible refine gate_callee (f:=59) rfl ?_);refine goesL_ (some 4) rfl rfl Try.func59 (by kernel_rfl) rfl #[.slice A0 l0.length c0] rfl Ya ?_;(with_reducible refine (spec_DrawGoodDisk.calls k _ _ l0 t544 t547 _ ?side1 ?side2 A2.out).mono ?_);(case side1=>exact sC HR0);(case side2=>exact HC0.out);rintro e w4 ⟨v545,v548,rfl,ho0,ho1,hb⟩;refine ⟨_,rfl,?_⟩;have HO546:=Aside0.mk (Kd.R_lower ho0 (below_size bH));have HO549:=Aside0.mk (Kd.R_lower ho1 (below_size bH));replace BK543:=Aside0.mk (blk_below (bB BK543) hb);replace HB:=Aside0.mk (below_step bH hb);(try clear hb);(try clear hb2);(try clear hk);(try clear hi);(try clear ho0);(try clear ho1);obtain ⟨Ao5,co5,eo5⟩:=Kd.R_slice HO546.out;subst eo5;have hcz6_0:w4.cell? ⟨gb543,0,none⟩ = some (.slice none 0 0):=(blk_cell BK543.out 0).trans rfl;have hcz6_1:w4.cell? ⟨gb543,1,none⟩ = some (.slice none 0 0):=(blk_cell BK543.out 1).trans rfl;have hfz6_0:=blk_frozen BK543.out 0;have hfz6_1:=blk_frozen BK543.out 1;obtain ⟨Ao7,co7,eo7⟩:=Kd.R_slice HO549.out;subst eo7))
 refine bodyPost_ret (results_cell_row rfl _ _ gb543 26 #[.slice Ao5 t544.length co5,.slice Ao7 t547.length co7] (0,0) _ rfl (by (with_reducible repeat (first|refine blk_drewN ?_ _|refine blk_drew ?_|refine blk_alloc ?_ _));refine blk_put (cs:=#[.slice Ao5 t544.length co5,.slice none 0 0]) ?_ 1 _ rfl;(with_reducible repeat (first|refine blk_drewN ?_ _|refine blk_drew ?_|refine blk_alloc ?_ _));refine blk_put (cs:=#[.slice none 0 0,.slice none 0 0]) ?_ 0 _ rfl;(with_reducible repeat (first|refine blk_drewN ?_ _|refine blk_drew ?_|refine blk_alloc ?_ _));exact BK543.out) Try.underlying26 rfl (by kernel_rfl)) rfl ?_
 exact ⟨_,_,Yb,by (with_reducible repeat (first|apply Kd.R_alloc|apply Kd.R_drewN|apply Kd.R_drew));exact Kd.R_mono (Kd.R_far (p:=⟨gb543,1,none⟩) (Kd.R_far (p:=⟨gb543,0,none⟩) (Kd.R_types HO546.out BK543.out (by decide)) (fun _ hk=>hk.2) (.slice Ao5 t544.length co5)) (fun _ hk=>hk.2) (.slice Ao7 t547.length co7)) (fun _ hk=>hk.1),by (with_reducible repeat (first|apply Kd.R_alloc|apply Kd.R_drewN|apply Kd.R_drew));exact Kd.R_mono (Kd.R_far (p:=⟨gb543,1,none⟩) (Kd.R_far (p:=⟨gb543,0,none⟩) (Kd.R_types HO549.out BK543.out (by decide)) (fun _ hk=>hk.2) (.slice Ao5 t544.length co5)) (fun _ hk=>hk.2) (.slice Ao7 t547.length co7)) (fun _ hk=>hk.1),bH⟩

/-! ### impl_SyncDisk: function 24 -/
def impl_SyncDisk.f (k:Nat) (l0_0:List ByteArray) (l0_1:List ByteArray):Option (List ByteArray × List ByteArray × Bool):=(impl_GoodDisk.f k l0_0 l0_1).bind fun t552=>(if t552 = true then ((slices_Concat_string_string.f k (([l0_0,l0_1]:List (List ByteArray)))).bind fun t556=>(some (t556,([]:List ByteArray),true))) else (some (([]:List ByteArray),([]:List ByteArray),false)))
theorem impl_SyncDisk.mono:∀ a0 a1 k,LeO (impl_SyncDisk.f k a0 a1) (impl_SyncDisk.f (k + 1) a0 a1):=by
 intro a0 a1 k
 unfold impl_SyncDisk.f
 have m0:=@impl_GoodDisk.mono
 have m1:=@slices_Concat_string_string.mono
 exact mO
set_option maxHeartbeats 8000000 in
set_option maxRecDepth 100000 in
theorem impl_SyncDisk.calls (k:Nat) (P0_0_:Nat → Prop) (A0_0:Option Addr) (c0_0:Nat) (l0_0:List ByteArray) (P0_1_:Nat → Prop) (A0_1:Option Addr) (c0_1:Nat) (l0_1:List ByteArray) (r1:List ByteArray) (r2:List ByteArray) (r3:Bool) (w:World) (hs0_0:Kd.V Kd.string 9 w w.heap.size (fun k_=>P0_0_ k_) (.slice A0_0 l0_0.length c0_0) l0_0) (hs0_1:Kd.V Kd.string 9 w w.heap.size (fun k_=>P0_1_ k_) (.slice A0_1 l0_1.length c0_1) l0_1) (h:impl_SyncDisk.f k l0_0 l0_1 = some (r1,r2,r3)) :
  Calls Try.prog 24 #[.agg #[.slice A0_0 l0_0.length c0_0,.slice A0_1 l0_1.length c0_1]] w fun e w'=>∃ v0_ v1_:Value,e = .returned (.tuple #[.agg #[v0_,v1_],.bool r3]) ∧ Kd.R Kd.string 9 w' w.heap.size (fun k_=>(w.heap.size ≤ k_) ∧ some k_ ≠ (v1_:Value).ownBlock) v0_ r1 ∧ Kd.R Kd.string 9 w' w.heap.size (fun k_=>(w.heap.size ≤ k_) ∧ some k_ ≠ (v0_:Value).ownBlock) v1_ r2 ∧ Below w.heap.size w w':=by
 have hu26:=Try.underlying26
 have HO0_0:=Aside0.mk (show Kd.V Kd.string 9 w w.heap.size (fun k_=>((P0_0_ k_ ∨ P0_1_ k_) ∨ w.heap.size ≤ k_)) (.slice A0_0 l0_0.length c0_0) l0_0 from Kd.V_mono hs0_0 (fun k_ hk=>.inl (.inl hk)))
 have HO0_1:=Aside0.mk (show Kd.V Kd.string 9 w w.heap.size (fun k_=>((P0_0_ k_ ∨ P0_1_ k_) ∨ w.heap.size ≤ k_)) (.slice A0_1 l0_1.length c0_1) l0_1 from Kd.V_mono hs0_1 (fun k_ hk=>.inl (.inr hk)))
 have HB:=Aside0.mk (Below.refl w.heap.size w)
 have H:((impl_GoodDisk.f k l0_0 l0_1).bind fun t552=>(if t552 = true then ((slices_Concat_string_string.f k (([l0_0,l0_1]:List (List ByteArray)))).bind fun t556=>(some (t556,([]:List ByteArray),true))) else (some (([]:List ByteArray),([]:List ByteArray),false)))) = some (r1,r2,r3):=h
 clear h
 replace H:=Option.bind_eq_some_iff.mp H
 obtain ⟨t552,A20,H⟩:=H
 replace H:(if t552 = true then ((slices_Concat_string_string.f k (([l0_0,l0_1]:List (List ByteArray)))).bind fun t556=>(some (t556,([]:List ByteArray),true))) else (some (([]:List ByteArray),([]:List ByteArray),false))) = some (r1,r2,r3):=H
 have A2:=Aside0.mk A20
 clear A20
 by_cases c3:t552 = true
 ·subst c3
  have H1:((slices_Concat_string_string.f k (([l0_0,l0_1]:List (List ByteArray)))).bind fun t556=>(some (t556,([]:List ByteArray),true))) = some (r1,r2,r3):=by rw [if_pos rfl] at H;exact H
  clear H
  have H:=H1
  clear H1
  obtain ⟨y553,hy553⟩:∃ y_:List (List ByteArray),y_ = (([l0_0,l0_1]:List (List ByteArray))):=⟨_,rfl⟩
  replace H:((slices_Concat_string_string.f k y553).bind fun t556=>(some (t556,([]:List ByteArray),true))) = some (r1,r2,r3):=by first|(rw [hy553];with_reducible exact H)|(have H2_:=(Option.bind_some _ _).symm.trans H;rw [hy553];with_reducible exact H2_)|(have H2_:=(Option.bind_some _ _).symm.trans H;with_reducible exact H2_)|with_reducible exact H|(rw [hy553];exact H)|exact H
  have Ny553:=Aside0.mk hy553
  clear hy553
  replace H:=Option.bind_eq_some_iff.mp H
  obtain ⟨t556,A40,H⟩:=H
  replace H:(some (t556,([]:List ByteArray),true)) = some (r1,r2,r3):=H
  have A4:=Aside0.mk A40
  clear A40
  simp only [Option.some.injEq,Prod.mk.injEq] at H
  obtain ⟨rfl,rfl,rfl⟩:=H
  go_enter Try.func24,Try.ntmps24
  go_wp2_with (first|((with_reducible refine gate_dst (N:=1) rfl ?_);refine box_event ?hg (N:=1) ?hd (cs:=#[.slice A0_0 l0_0.length c0_0,.slice A0_1 l0_1.length c0_1]) (t:=26) ?hr ?_;(case hd=>rfl);(case hg=>rfl);(case hr=>exact Yg);intro gb550 hg w5 hbox hb;replace HO0_0:=Aside0.mk (Kd.V_below (Kd.V_elderB (rV HO0_0) gb550 (Nat.le_of_eq hg.symm)) hb);replace HO0_1:=Aside0.mk (Kd.V_below (Kd.V_elderB (rV HO0_1) gb550 (Nat.le_of_eq hg.symm)) hb);have BK550:=Aside0.mk (hbox);have GW550:=Aside0.mk ((hZ:w.heap.size ≤ gb550));have GE550:=Aside0.mk ((hZ:w.heap.size ≤ gb550));replace HB:=Aside0.mk (below_step bH hb);clear hb hbox hg)|((with_reducible refine gate_dst (N:=2) rfl ?_);refine box_event ?hg (N:=2) ?hd (cs:=#[.slice none 0 0,.slice none 0 0]) (t:=26) ?hr ?_;(case hd=>rfl);(case hg=>rfl);(case hr=>exact Yg);intro gb551 hg w6 hbox hb;replace HO0_0:=Aside0.mk (Kd.V_below (Kd.V_elderB (rV HO0_0) gb551 (Nat.le_of_eq hg.symm)) hb);replace HO0_1:=Aside0.mk (Kd.V_below (Kd.V_elderB (rV HO0_1) gb551 (Nat.le_of_eq hg.symm)) hb);have BK551:=Aside0.mk (hbox);have GW551:=Aside0.mk ((hZ:w.heap.size ≤ gb551));have GE551:=Aside0.mk ((hZ:w.heap.size ≤ gb551));replace HB:=Aside0.mk (below_step bH hb);have NB550_551:=Aside0.mk ((nL BK550:gb550 ≠ gb551));have NB551_550:=Aside0.mk ((nG BK550:gb551 ≠ gb550));replace BK550:=Aside0.mk (blk_below (bB BK550) hb);clear hb hbox hg;have hnb7:=NB550_551.out;have hnc7:=NB551_550.out;have hcz8_0:w6.cell? ⟨gb550,0,none⟩ = some (.slice A0_0 l0_0.length c0_0):=(blk_cell BK550.out 0).trans rfl;have hcz8_1:w6.cell? ⟨gb550,1,none⟩ = some (.slice A0_1 l0_1.length c0_1):=(blk_cell BK550.out 1).trans rfl;have hfz8_0:=blk_frozen BK550.out 0;have hfz8_1:=blk_frozen BK550.out 1)|((with_reducible refine gate_callee (f:=11) rfl ?_);refine goesL_ (some 5) rfl rfl Try.func11 (by kernel_rfl) rfl #[.agg #[.slice A0_0 l0_0.length c0_0,.slice A0_1 l0_1.length c0_1]] rfl Ya ?_;(with_reducible refine (impl_GoodDisk.calls k (fun k_=>((((P0_0_ k_ ∨ P0_1_ k_) ∨ w.heap.size ≤ k_) ∧ k_ ≠ gb550) ∧ k_ ≠ gb551)) _ _ l0_0 (fun k_=>((((P0_0_ k_ ∨ P0_1_ k_) ∨ w.heap.size ≤ k_) ∧ k_ ≠ gb550) ∧ k_ ≠ gb551)) _ _ l0_1 true _ ?side1 ?side2 A2.out).mono ?_);(case side1=>exact HO0_0.out);(case side2=>exact HO0_1.out);rintro e w9 ⟨rfl,hb⟩;refine ⟨_,rfl,?_⟩;replace HO0_0:=Aside0.mk (Kd.V_below (rV HO0_0) hb);replace HO0_1:=Aside0.mk (Kd.V_below (rV HO0_1) hb);replace BK550:=Aside0.mk (blk_below (bB BK550) hb);replace BK551:=Aside0.mk (blk_below (bB BK551) hb);replace HB:=Aside0.mk (below_step bH hb);(try clear hb);(try clear hb2);(try clear hk);(try clear hi);have hcz10_0:w9.cell? ⟨gb550,0,none⟩ = some (.slice A0_0 l0_0.length c0_0):=(blk_cell BK550.out 0).trans rfl;have hcz10_1:w9.cell? ⟨gb550,1,none⟩ = some (.slice A0_1 l0_1.length c0_1):=(blk_cell BK550.out 1).trans rfl;have hfz10_0:=blk_frozen BK550.out 0;have hfz10_1:=blk_frozen BK550.out 1)|((with_reducible refine gate_dst (N:=12) rfl ?_);refine Kd.N_lit (Kd.slice 9 Kd.string) _ 24 ?hg (N':=12) ?hd (xs:=([l0_0,l0_1]:List (List ByteArray))) (inner:=[.slice A0_0 l0_0.length c0_0,.slice A0_1 l0_1.length c0_1]) (ok:=(fun k_=>((P0_0_ k_ ∨ P0_1_ k_) ∨ w.heap.size ≤ k_) ∧ k_ ≠ gb550 ∧ k_ ≠ gb551)) (okp:=(fun k_=>((P0_0_ k_ ∨ P0_1_ k_) ∨ w.heap.size ≤ k_) ∧ k_ ≠ gb550 ∧ k_ ≠ gb551)) ?hr ?hp (fun _ hk=>hk) ((show ∀ k_,w9.heap.size ≤ k_ → (fun k_=>((P0_0_ k_ ∨ P0_1_ k_) ∨ w.heap.size ≤ k_) ∧ k_ ≠ gb550 ∧ k_ ≠ gb551) k_ from fun k_ hk=>⟨(.inr (Nat.le_trans (below_size bH) hk)),Kd.freshB (bB BK550) k_ hk,Kd.freshB (bB BK551) k_ hk⟩) _ (Nat.le_refl _)) (Below.refl _ _) (Nat.le_refl _) (by simp) ?_;(case hd=>rfl);(case hg=>rfl);(case hr=>exact Yg);(case hp=>exact (Reps.one (show Kd.FK (Kd.slice 9 Kd.string) _ _ l0_0 [.slice A0_0 l0_0.length c0_0] from (Kd.FK_slice_mk (Kd.V_reads' (Kd.V_mono (ok':=(fun k_=>((P0_0_ k_ ∨ P0_1_ k_) ∨ w.heap.size ≤ k_) ∧ k_ ≠ gb550 ∧ k_ ≠ gb551)) (HO0_0.out) (fun k_ hk=>⟨hk.1.1,⟨hk.1.2,hk.2⟩⟩))).2.1 (Kd.V_F (Kd.V_mono (ok':=(fun k_=>((P0_0_ k_ ∨ P0_1_ k_) ∨ w.heap.size ≤ k_) ∧ k_ ≠ gb550 ∧ k_ ≠ gb551)) (HO0_0.out) (fun k_ hk=>⟨hk.1.1,⟨hk.1.2,hk.2⟩⟩))))) (Reps.one (show Kd.FK (Kd.slice 9 Kd.string) _ _ l0_1 [.slice A0_1 l0_1.length c0_1] from (Kd.FK_slice_mk (Kd.V_reads' (Kd.V_mono (ok':=(fun k_=>((P0_0_ k_ ∨ P0_1_ k_) ∨ w.heap.size ≤ k_) ∧ k_ ≠ gb550 ∧ k_ ≠ gb551)) (HO0_1.out) (fun k_ hk=>⟨hk.1.1,⟨hk.1.2,hk.2⟩⟩))).2.1 (Kd.V_F (Kd.V_mono (ok':=(fun k_=>((P0_0_ k_ ∨ P0_1_ k_) ∨ w.heap.size ≤ k_) ∧ k_ ≠ gb550 ∧ k_ ≠ gb551)) (HO0_1.out) (fun k_ hk=>⟨hk.1.1,⟨hk.1.2,hk.2⟩⟩))))) (Reps.none _ _))));intro v554 w11 ho12 hb hg_ hnew_;clear hg_ hnew_;(first|rw [← Ny553.out] at ho12|(simp only [Int.reduceToNat] at ho12;rw [← Ny553.out] at ho12));replace HO0_0:=Aside0.mk (Kd.V_elder' (rV HO0_0) (Kd.N_base ho12) hb);replace HO0_1:=Aside0.mk (Kd.V_elder' (rV HO0_1) (Kd.N_base ho12) hb);have HO555:=Aside0.mk (Kd.N_lower ho12 (below_size bH));replace BK550:=Aside0.mk (blk_below (bB BK550) hb);replace BK551:=Aside0.mk (blk_below (bB BK551) hb);replace HB:=Aside0.mk (below_step bH hb);clear hb ho12;obtain ⟨Ao13,co13,eo13⟩:=Kd.N_slice HO555.out;subst eo13)|((with_reducible refine gate_callee (f:=44) rfl ?_);refine goesL_ (some 13) rfl rfl Try.func44 (by kernel_rfl) rfl #[.slice Ao13 y553.length co13] rfl Ya ?_;(with_reducible refine (slices_Concat_string_string.calls k _ _ y553 t556 _ ?side1 ?side2 A4.out).mono ?_);(case side1=>repeat (first|exact (Kd.N_reads' HO555.out).2.2|(with_reducible refine Kd.C_alloc ?_ _)|(with_reducible refine Kd.C_drewN ?_ _)|(with_reducible refine Kd.C_drew ?_)));(case side2=>exact (Kd.N_reads' HO555.out).2.1);rintro e w14 ⟨v557,rfl,ho0,hb⟩;refine ⟨_,rfl,?_⟩;replace HO0_0:=Aside0.mk (Kd.V_elder' (rV HO0_0) (Kd.R_base ho0) hb);replace HO0_1:=Aside0.mk (Kd.V_elder' (rV HO0_1) (Kd.R_base ho0) hb);replace HO555:=Aside0.mk (Kd.N_elder' (rN HO555) (Kd.R_base ho0) hb);have HO558:=Aside0.mk (Kd.R_lower (Kd.R_newM (M:=fun k_=>(w.heap.size ≤ k_)) ho0 (below_size bH) (fun k_ h_=>h_)) (below_size bH));replace BK550:=Aside0.mk (blk_below (bB BK550) hb);replace BK551:=Aside0.mk (blk_below (bB BK551) hb);replace HB:=Aside0.mk (below_step bH hb);(try clear hb);(try clear hb2);(try clear hk);(try clear hi);(try clear ho0);obtain ⟨Ao15,co15,eo15⟩:=Kd.R_slice HO558.out;subst eo15;have hcz16_0:w14.cell? ⟨gb551,0,none⟩ = some (.slice none 0 0):=(blk_cell BK551.out 0).trans rfl;have hcz16_1:w14.cell? ⟨gb551,1,none⟩ = some (.slice none 0 0):=(blk_cell BK551.out 1).trans rfl;have hfz16_0:=blk_frozen BK551.out 0;have hfz16_1:=blk_frozen BK551.out 1))
  refine bodyPost_ret (results_ct rfl _ _ gb551 26 #[.slice Ao15 t556.length co15,.slice none 0 0] (0,0) _ rfl (by (with_reducible repeat (first|refine blk_drewN ?_ _|refine blk_drew ?_|refine blk_alloc ?_ _));refine blk_put (cs:=#[.slice Ao15 t556.length co15,.slice none 0 0]) ?_ 1 _ rfl;(with_reducible repeat (first|refine blk_drewN ?_ _|refine blk_drew ?_|refine blk_alloc ?_ _));refine blk_put (cs:=#[.slice none 0 0,.slice none 0 0]) ?_ 0 _ rfl;(with_reducible repeat (first|refine blk_drewN ?_ _|refine blk_drew ?_|refine blk_alloc ?_ _));exact BK551.out) Try.underlying26 rfl (by kernel_rfl)) rfl ?_
  exact ⟨_,_,Yb,by (with_reducible repeat (first|apply Kd.R_alloc|apply Kd.R_drewN|apply Kd.R_drew));exact Kd.R_mono (Kd.R_far (p:=⟨gb551,1,none⟩) (Kd.R_far (p:=⟨gb551,0,none⟩) (Kd.R_types HO558.out BK551.out (by decide)) (fun _ hk=>hk.2) (.slice Ao15 t556.length co15)) (fun _ hk=>hk.2) (.slice none 0 0)) (fun _ hk=>⟨hk.1.1,ZR⟩),Yd,bH⟩
 ·replace c3:=Bool.eq_false_iff.mpr c3
  subst c3
  have H1:(some (([]:List ByteArray),([]:List ByteArray),false)) = some (r1,r2,r3):=by rw [if_neg (show ¬ (false = true) by decide)] at H;exact H
  clear H
  have H:=H1
  clear H1
  simp only [Option.some.injEq,Prod.mk.injEq] at H
  obtain ⟨rfl,rfl,rfl⟩:=H
  go_enter Try.func24,Try.ntmps24
  go_wp2_with (first|((with_reducible refine gate_dst (N:=1) rfl ?_);refine box_event ?hg (N:=1) ?hd (cs:=#[.slice A0_0 l0_0.length c0_0,.slice A0_1 l0_1.length c0_1]) (t:=26) ?hr ?_;(case hd=>rfl);(case hg=>rfl);(case hr=>exact Yg);intro gb550 hg w17 hbox hb;replace HO0_0:=Aside0.mk (Kd.V_below (Kd.V_elderB (rV HO0_0) gb550 (Nat.le_of_eq hg.symm)) hb);replace HO0_1:=Aside0.mk (Kd.V_below (Kd.V_elderB (rV HO0_1) gb550 (Nat.le_of_eq hg.symm)) hb);have BK550:=Aside0.mk (hbox);have GW550:=Aside0.mk ((hZ:w.heap.size ≤ gb550));have GE550:=Aside0.mk ((hZ:w.heap.size ≤ gb550));replace HB:=Aside0.mk (below_step bH hb);clear hb hbox hg)|((with_reducible refine gate_dst (N:=2) rfl ?_);refine box_event ?hg (N:=2) ?hd (cs:=#[.slice none 0 0,.slice none 0 0]) (t:=26) ?hr ?_;(case hd=>rfl);(case hg=>rfl);(case hr=>exact Yg);intro gb551 hg w18 hbox hb;replace HO0_0:=Aside0.mk (Kd.V_below (Kd.V_elderB (rV HO0_0) gb551 (Nat.le_of_eq hg.symm)) hb);replace HO0_1:=Aside0.mk (Kd.V_below (Kd.V_elderB (rV HO0_1) gb551 (Nat.le_of_eq hg.symm)) hb);have BK551:=Aside0.mk (hbox);have GW551:=Aside0.mk ((hZ:w.heap.size ≤ gb551));have GE551:=Aside0.mk ((hZ:w.heap.size ≤ gb551));replace HB:=Aside0.mk (below_step bH hb);have NB550_551:=Aside0.mk ((nL BK550:gb550 ≠ gb551));have NB551_550:=Aside0.mk ((nG BK550:gb551 ≠ gb550));replace BK550:=Aside0.mk (blk_below (bB BK550) hb);clear hb hbox hg;have hnb19:=NB550_551.out;have hnc19:=NB551_550.out;have hcz20_0:w18.cell? ⟨gb550,0,none⟩ = some (.slice A0_0 l0_0.length c0_0):=(blk_cell BK550.out 0).trans rfl;have hcz20_1:w18.cell? ⟨gb550,1,none⟩ = some (.slice A0_1 l0_1.length c0_1):=(blk_cell BK550.out 1).trans rfl;have hfz20_0:=blk_frozen BK550.out 0;have hfz20_1:=blk_frozen BK550.out 1)|((with_reducible refine gate_callee (f:=11) rfl ?_);refine goesL_ (some 5) rfl rfl Try.func11 (by kernel_rfl) rfl #[.agg #[.slice A0_0 l0_0.length c0_0,.slice A0_1 l0_1.length c0_1]] rfl Ya ?_;(with_reducible refine (impl_GoodDisk.calls k (fun k_=>((((P0_0_ k_ ∨ P0_1_ k_) ∨ w.heap.size ≤ k_) ∧ k_ ≠ gb550) ∧ k_ ≠ gb551)) _ _ l0_0 (fun k_=>((((P0_0_ k_ ∨ P0_1_ k_) ∨ w.heap.size ≤ k_) ∧ k_ ≠ gb550) ∧ k_ ≠ gb551)) _ _ l0_1 false _ ?side1 ?side2 A2.out).mono ?_);(case side1=>exact HO0_0.out);(case side2=>exact HO0_1.out);rintro e w21 ⟨rfl,hb⟩;refine ⟨_,rfl,?_⟩;replace HO0_0:=Aside0.mk (Kd.V_below (rV HO0_0) hb);replace HO0_1:=Aside0.mk (Kd.V_below (rV HO0_1) hb);replace BK550:=Aside0.mk (blk_below (bB BK550) hb);replace BK551:=Aside0.mk (blk_below (bB BK551) hb);replace HB:=Aside0.mk (below_step bH hb);(try clear hb);(try clear hb2);(try clear hk);(try clear hi);have hcz22_0:w21.cell? ⟨gb551,0,none⟩ = some (.slice none 0 0):=(blk_cell BK551.out 0).trans rfl;have hcz22_1:w21.cell? ⟨gb551,1,none⟩ = some (.slice none 0 0):=(blk_cell BK551.out 1).trans rfl;have hfz22_0:=blk_frozen BK551.out 0;have hfz22_1:=blk_frozen BK551.out 1))
  refine bodyPost_ret (results_ct rfl _ _ gb551 26 #[.slice none 0 0,.slice none 0 0] (0,0) _ rfl (by (with_reducible repeat (first|refine blk_drewN ?_ _|refine blk_drew ?_|refine blk_alloc ?_ _));refine blk_put (cs:=#[.slice none 0 0,.slice none 0 0]) ?_ 1 _ rfl;(with_reducible repeat (first|refine blk_drewN ?_ _|refine blk_drew ?_|refine blk_alloc ?_ _));refine blk_put (cs:=#[.slice none 0 0,.slice none 0 0]) ?_ 0 _ rfl;(with_reducible repeat (first|refine blk_drewN ?_ _|refine blk_drew ?_|refine blk_alloc ?_ _));exact BK551.out) Try.underlying26 rfl (by kernel_rfl)) rfl ?_
  exact ⟨_,_,Yb,Yd,Yd,bH⟩

/-! ### laws_FnDisk: function 3, by a walk of this session's own -/
/-- The rows of a disk can be read. -/
def DK (w:World) (A:Option Addr) (c:Nat) (xs:List ByteArray) (B:Option Addr) (d:Nat) (ys:List ByteArray):Prop:=(Kd.C Kd.string w A xs.length xs ∧ xs.length ≤ c) ∧ (Kd.C Kd.string w B ys.length ys ∧ ys.length ≤ d)
/-- A variable in memory that holds a disk. -/
def BX (w:World) (g:Nat) (A:Option Addr) (c:Nat) (xs:List ByteArray) (B:Option Addr) (d:Nat) (ys:List ByteArray):Prop:=w.heap[g]? = some (.cells #[.slice A xs.length c,.slice B ys.length d] 26 (0,0)) ∧ DK w A c xs B d ys
/-- A row of texts. -/
def RW (w:World) (A:Option Addr) (c:Nat) (xs:List ByteArray):Prop:=Kd.C Kd.string w A xs.length xs ∧ xs.length ≤ c
/-- What holds here and in all later worlds. -/
def Hold (w:World) (ps:List (World → Prop)):Prop:=∀ p ∈ ps,∀ w',Below w.heap.size w w' → p w'
theorem Hold.get {w:World} {ps:List (World → Prop)} (h:Hold w ps) {p:World → Prop} (i:Nat) (e:ps[i]? = some p):p w:=h p (List.mem_of_getElem? e) w (Below.refl _ _)
theorem Hold.below {w w1:World} {ps:List (World → Prop)} (h:Hold w ps) (hb:Below w.heap.size w w1):Hold w1 ps:=fun p hp w' h'=>h p hp w' (below_step hb h')
theorem Hold.cons {w:World} {ps:List (World → Prop)} {p:World → Prop} (h1:∀ w',Below w.heap.size w w' → p w') (h:Hold w ps):Hold w (p :: ps):=fun q hq w' h'=>by rcases List.mem_cons.1 hq with rfl|hq;exact h1 w' h';exact h q hq w' h'
theorem DK.all {w:World} {A c xs B d ys} (h:DK w A c xs B d ys):∀ w',Below w.heap.size w w' → DK w' A c xs B d ys:=fun _ hb=>⟨⟨Kd.C_below h.1.1 hb,h.1.2⟩,⟨Kd.C_below h.2.1 hb,h.2.2⟩⟩
theorem RW.all {w:World} {A c xs} (h:RW w A c xs):∀ w',Below w.heap.size w w' → RW w' A c xs:=fun _ hb=>⟨Kd.C_below h.1 hb,h.2⟩
theorem BX.all {w:World} {g A c xs B d ys} (h:BX w g A c xs B d ys):∀ w',Below w.heap.size w w' → BX w' g A c xs B d ys:=fun w' hb=>⟨(hb.block _ (blk_lt h.1)).trans h.1,h.2.all w' hb⟩
theorem BX.cells {w:World} {g A c xs B d ys} (h:BX w g A c xs B d ys):w.cell? ⟨g,0,none⟩ = some (.slice A xs.length c) ∧ w.cell? ⟨g,1,none⟩ = some (.slice B ys.length d):=⟨(blk_cell h.1 0).trans rfl,(blk_cell h.1 1).trans rfl⟩
theorem DK.of {w:World} {n m:Nat} {P Q:Nat → Prop} {v0 v1:Value} {xs ys:List ByteArray} (h0:Kd.R Kd.string 9 w n P v0 xs) (h1:Kd.R Kd.string 9 w m Q v1 ys):∃ A c B d,v0 = .slice A xs.length c ∧ v1 = .slice B ys.length d ∧ DK w A c xs B d ys:=by
  obtain ⟨A,c,rfl⟩:=Kd.R_slice h0
  obtain ⟨B,d,rfl⟩:=Kd.R_slice h1
  exact ⟨A,c,B,d,rfl,rfl,⟨(Kd.R_reads' h0).2.2,(Kd.R_reads' h0).2.1⟩,⟨(Kd.R_reads' h1).2.2,(Kd.R_reads' h1).2.1⟩⟩
theorem RW.of {w:World} {n:Nat} {P:Nat → Prop} {v0:Value} {xs:List ByteArray} (h0:Kd.R Kd.string 9 w n P v0 xs):∃ A c,v0 = .slice A xs.length c ∧ RW w A c xs:=by
  obtain ⟨A,c,rfl⟩:=Kd.R_slice h0
  exact ⟨A,c,rfl,(Kd.R_reads' h0).2.2,(Kd.R_reads' h0).2.1⟩
theorem RW.V {w:World} {A c xs} (h:Kd.C Kd.string w A xs.length xs ∧ xs.length ≤ c):Kd.V Kd.string 9 w w.heap.size (fun k_=>k_ < w.heap.size) (.slice A xs.length c) xs:=Kd.V_mk h.2 (Kd.C_F Kd.heap_string h.1)
theorem BX.put {w w1:World} {g:Nat} (hg:g = w.heap.size) (hx:w1.heap[g]? = some (.cells #[.slice none 0 0,.slice none 0 0] 26 (0,0))) (hb:Below w.heap.size w w1) {A c xs B d ys} (h:DK w A c xs B d ys):∃ w2,w2 = (w1.setCell ⟨g,0,none⟩ (.slice A xs.length c)).setCell ⟨g,1,none⟩ (.slice B ys.length d) ∧ Below w.heap.size w w2 ∧ BX w2 g A c xs B d ys:=by
  have hd:=(hb.setCell (p:=⟨g,0,none⟩) (by simp [hg]) (.slice A xs.length c)).setCell (p:=⟨g,1,none⟩) (by simp [hg]) (.slice B ys.length d)
  exact ⟨_,rfl,hd,blk_put (cs':=#[.slice A xs.length c,.slice B ys.length d]) (blk_put (cs':=#[.slice A xs.length c,.slice none 0 0]) hx 0 _ rfl) 1 _ rfl,h.all _ hd⟩
theorem one_more {n m:Nat} (h:m = n + 1) (h4:n ≤ 400):((m:Int) != wrap64 ((n:Int) + 1)) = false:=bne_eq_false_iff_eq.mpr (by unfold wrap64;omega)
def laws_FnDisk.more:ByteArray:=⟨#[111,110,99,101,32,109,111,114,101]⟩
structure laws_FnDisk.In (k:Nat) (s l cs cl:List ByteArray) (ahead:List ByteArray) (used:Int) (sure:List ByteArray) (us:Int) (ms ml behind ag al ps pl:List ByteArray) (six:Bool) (lt:List ByteArray) (ul:Int) (seven:Bool):Prop where
  ta:impl_TextsOn.f k s l = some (ahead,used,true)
  ts:impl_TextsOn.f k s [] = some (sure,us,true)
  m1:impl_MendDisk.f k cs cl = some (ms,ml,true)
  tb:impl_TextsOn.f k ms ml = some (behind,(ms.length:Int),true)
  m2:impl_MendDisk.f k ms ml = some (ag,al,true)
  sm:laws_sameDisk.f k ag al ms ml = some true
  fr:used = wrap64 ((s.length:Int) + (l.length:Int)) → behind.length ≤ ahead.length ∧ sure.length ≤ behind.length ∧ laws_sameTexts.f k (ahead.take behind.length) behind = some true
  pt:impl_PutText.f k ms ml laws_FnDisk.more = some (ps,pl,six)
  tp:impl_TextsOn.f k ps pl = some (lt,ul,seven)
  ls:six = true → seven = true ∧ behind.length ≤ 400 ∧ lt.length = behind.length + 1 ∧ rdOf ByteArray.empty lt (behind.length:Int) = laws_FnDisk.more
structure laws_FnDisk.Ok (k:Nat) (l0 l1:List Int) (s l:List ByteArray) (kp tn:Int) (cs cl:List ByteArray) (ok gd:Bool) (e0 e1:List ByteArray) (text:ByteArray) (p0 p1:List ByteArray) (one:Bool) (f0 f1 tx:List ByteArray) (un:Int) (three:Bool) (g0 g1 n0 n1:List ByteArray) (five:Bool) (h0 h1 y0 y1:List ByteArray) (seven:Bool):Prop where
  draw:spec_DrawCrashDisk.f k l0 = some (s,l,kp,tn)
  ic:impl_CrashDisk.f k s l kp tn = some (cs,cl,ok)
  sc:spec_CrashDisk.f k s l kp tn = some (cs,cl,ok)
  sd:laws_sameDisk.f k cs cl cs cl = some true
  ig:impl_GoodDisk.f k s l = some gd
  sg:spec_GoodDisk.f k s l = some gd
  inn:ok = true → ∃ ahead used sure us ms ml behind ag al ps pl six lt ul seven,laws_FnDisk.In k s l cs cl ahead used sure us ms ml behind ag al ps pl six lt ul seven
  dp:spec_DrawPutText.f k l1 = some (e0,e1,text)
  ip:impl_PutText.f k e0 e1 text = some (p0,p1,one)
  sp:spec_PutText.f k e0 e1 text = some (p0,p1,one)
  sp2:laws_sameDisk.f k p0 p1 p0 p1 = some true
  dt:spec_DrawTextsOn.f k l1 = some (f0,f1)
  it:impl_TextsOn.f k f0 f1 = some (tx,un,three)
  st:spec_TextsOn.f k f0 f1 = some (tx,un,three)
  stx:laws_sameTexts.f k tx tx = some true
  dm:spec_DrawMendDisk.f k l1 = some (g0,g1)
  im:impl_MendDisk.f k g0 g1 = some (n0,n1,five)
  sm:spec_MendDisk.f k g0 g1 = some (n0,n1,five)
  sm2:laws_sameDisk.f k n0 n1 n0 n1 = some true
  ds:spec_DrawSyncDisk.f k l1 = some (h0,h1)
  is:impl_SyncDisk.f k h0 h1 = some (y0,y1,seven)
  ss:spec_SyncDisk.f k h0 h1 = some (y0,y1,seven)
  ss2:laws_sameDisk.f k y0 y1 y0 y1 = some true
def laws_FnDisk.Facts (k:Nat) (l0 l1:List Int):Prop:=∃ s l kp tn cs cl ok gd e0 e1 text p0 p1 one f0 f1 tx un three g0 g1 n0 n1 five h0 h1 y0 y1 seven,laws_FnDisk.Ok k l0 l1 s l kp tn cs cl ok gd e0 e1 text p0 p1 one f0 f1 tx un three g0 g1 n0 n1 five h0 h1 y0 y1 seven
set_option maxHeartbeats 16000000 in
set_option maxRecDepth 1000000 in
theorem laws_FnDisk.walked (k:Nat) (A0:Option Addr) (c0:Nat) (l0:List Int) (A1:Option Addr) (c1:Nat) (l1:List Int) (w:World) (hr0:Kd.C (Kd.int .u8) w A0 l0.length l0) (hc0:l0.length ≤ c0) (hr1:Kd.C (Kd.int .u8) w A1 l1.length l1) (hc1:l1.length ≤ c1)
    (bg:Bool) (hb:laws_big.f l0 l1 = some bg) (h:bg = false → laws_FnDisk.Facts k l0 l1) :
    Calls Try.prog 3 #[.slice A0 l0.length c0,.slice A1 l1.length c1] w fun e w'=>e = .returned (.bool true) ∧ Below w.heap.size w w':=by
  have HL:=Aside0.mk (And.intro hc0 hc1)
  have hh:=Aside0.mk h
  have HS:Aside0 (Hold w [fun w'=>Below w.heap.size w w',fun w'=>Kd.C (Kd.int .u8) w' A0 l0.length l0,fun w'=>Kd.C (Kd.int .u8) w' A1 l1.length l1]):=⟨Hold.cons (fun _ h=>h) (Hold.cons (fun _ h=>Kd.C_below hr0 h) (Hold.cons (fun _ h=>Kd.C_below hr1 h) (fun _ h=>absurd h (by simp))))⟩
  have hcall:=laws_big.calls A0 c0 l0 A1 c1 l1 bg w hr0 hc0 hr1 hc1 hb
  clear hr0 hc0 hr1 hc1 h hb
  go_enter Try.func3,Try.ntmps3
  go_wp2_with (go_at_call 6;refine hcall.mono ?_)
  rintro e W1 ⟨rfl,hd⟩
  replace HS:=Aside0.mk (HS.out.below hd.below)
  clear hcall hd
  cases bg with
  | true =>
    go_wp2
    go_ret
    exact ⟨rfl,HS.out.get 0 rfl⟩
  | false =>
    obtain ⟨s,l,kp,tn,cs,cl,ok,gd,e0,e1,text,p0,p1,one,f0,f1,tx,un,three,g0,g1,n0,n1,five,h0,h1,y0,y1,seven,H⟩:=hh.out rfl
    have H:=Aside0.mk H
    clear hh
    have hcall:=spec_DrawCrashDisk.calls k A0 c0 l0 s l kp tn W1 (HS.out.get 1 rfl) HL.out.1 H.out.draw
    go_wp2_with (go_at_call 7;refine hcall.mono ?_)
    rintro e W2 ⟨v0,v1,rfl,q0,q1,hd⟩
    replace HS:=Aside0.mk (HS.out.below hd)
    obtain ⟨AD,cD,BD,dD,rfl,rfl,hD⟩:=DK.of q0 q1
    have HD:=Aside0.mk hD
    clear hcall hd q0 q1 hD
    go_upto_region 4 with ((with_reducible refine gate_dst (N:=5) rfl ?_);refine box_event ?hg (N:=5) ?hd (cs:=#[.slice none 0 0,.slice none 0 0]) (t:=26) ?hr ?_;(case hd=>rfl);(case hg=>rfl);(case hr=>exact Yg);intro gD hg W3 hx hb;have hz0:W3.cell? ⟨gD,0,none⟩ = some (.slice none 0 0):=(blk_cell hx 0).trans rfl;have hz1:W3.cell? ⟨gD,1,none⟩ = some (.slice none 0 0):=(blk_cell hx 1).trans rfl;have hy0:=blk_frozen hx 0;have hy1:=blk_frozen hx 1;replace hg:=Aside0.mk hg)
    obtain ⟨W4,hW,hd,hX⟩:=BX.put hg.out hx hb HD.out
    rw [← hW]
    replace HS:=Aside0.mk (HS.out.below hd)
    replace HS:=Aside0.mk (Hold.cons hX.all HS.out)
    clear hg hx hb HD hW hd hX hz0 hz1 hy0 hy1
    obtain ⟨zD0,zD1⟩:=(HS.out.get 0 rfl).cells
    have hcall:=impl_CrashDisk.calls k _ AD cD s _ BD dD l kp tn cs cl ok W4 (RW.V (HS.out.get 0 rfl).2.1) (RW.V (HS.out.get 0 rfl).2.2) H.out.ic
    go_wp2_with (go_at_call 8;refine hcall.mono ?_)
    rintro e W5 ⟨v0,v1,rfl,q0,q1,hd⟩
    clear zD0 zD1
    replace HS:=Aside0.mk (HS.out.below hd)
    obtain ⟨AC,cC,BC,dC,rfl,rfl,hD⟩:=DK.of q0 q1
    have HD:=Aside0.mk hD
    clear hcall hd q0 q1 hD
    go_upto_region 5 with ((with_reducible refine gate_dst (N:=8) rfl ?_);refine box_event ?hg (N:=8) ?hd (cs:=#[.slice none 0 0,.slice none 0 0]) (t:=26) ?hr ?_;(case hd=>rfl);(case hg=>rfl);(case hr=>exact Yg);intro gC hg W6 hx hb;have hz0:W6.cell? ⟨gC,0,none⟩ = some (.slice none 0 0):=(blk_cell hx 0).trans rfl;have hz1:W6.cell? ⟨gC,1,none⟩ = some (.slice none 0 0):=(blk_cell hx 1).trans rfl;have hy0:=blk_frozen hx 0;have hy1:=blk_frozen hx 1;replace hg:=Aside0.mk hg)
    obtain ⟨W7,hW,hd,hX⟩:=BX.put hg.out hx hb HD.out
    rw [← hW]
    replace HS:=Aside0.mk (HS.out.below hd)
    replace HS:=Aside0.mk (Hold.cons hX.all HS.out)
    clear hg hx hb HD hW hd hX hz0 hz1 hy0 hy1
    obtain ⟨zD0,zD1⟩:=(HS.out.get 1 rfl).cells
    have hcall:=spec_CrashDisk.calls k AD cD s BD dD l kp tn cs cl ok W7 (HS.out.get 1 rfl).2.1.1 (HS.out.get 1 rfl).2.1.2 (HS.out.get 1 rfl).2.2.1 (HS.out.get 1 rfl).2.2.2 H.out.sc
    go_wp2_with (go_at_call 9;refine hcall.mono ?_)
    rintro e W8 ⟨v0,v1,rfl,q0,q1,hd⟩
    clear zD0 zD1
    replace HS:=Aside0.mk (HS.out.below hd)
    obtain ⟨AE,cE,BE,dE,rfl,rfl,hD⟩:=DK.of q0 q1
    have HD:=Aside0.mk hD
    clear hcall hd q0 q1 hD
    go_upto_region 6 with ((with_reducible refine gate_dst (N:=10) rfl ?_);refine box_event ?hg (N:=10) ?hd (cs:=#[.slice none 0 0,.slice none 0 0]) (t:=26) ?hr ?_;(case hd=>rfl);(case hg=>rfl);(case hr=>exact Yg);intro gE hg W9 hx hb;have hz0:W9.cell? ⟨gE,0,none⟩ = some (.slice none 0 0):=(blk_cell hx 0).trans rfl;have hz1:W9.cell? ⟨gE,1,none⟩ = some (.slice none 0 0):=(blk_cell hx 1).trans rfl;have hy0:=blk_frozen hx 0;have hy1:=blk_frozen hx 1;replace hg:=Aside0.mk hg)
    obtain ⟨W10,hW,hd,hX⟩:=BX.put hg.out hx hb HD.out
    rw [← hW]
    replace HS:=Aside0.mk (HS.out.below hd)
    replace HS:=Aside0.mk (Hold.cons hX.all HS.out)
    clear hg hx hb HD hW hd hX hz0 hz1 hy0 hy1
    go_cut [91] (fun v91 wc=>v91 = .bool false ∧ Aside0 (Below W10.heap.size W10 wc))
    case first =>
      as_aux_lemma =>
        obtain ⟨zC0,zC1⟩:=(HS.out.get 1 rfl).cells
        obtain ⟨zE0,zE1⟩:=(HS.out.get 0 rfl).cells
        obtain ⟨zD0,zD1⟩:=(HS.out.get 2 rfl).cells
        have hd0:=below_drew1 (Below.refl W10.heap.size W10)
        rcases ok with _|_ <;>
        (
         refine start_ (n:=16) (S:=fun w'=>w'.cell? ⟨gC,0,none⟩ = some (.slice AC cs.length cC) ∧ w'.cell? ⟨gC,1,none⟩ = some (.slice BC cl.length dC) ∧ w'.cell? ⟨gE,0,none⟩ = some (.slice AE cs.length cE) ∧ w'.cell? ⟨gE,1,none⟩ = some (.slice BE cl.length dE) ∧ w'.cell? ⟨gD,0,none⟩ = some (.slice AD s.length cD) ∧ w'.cell? ⟨gD,1,none⟩ = some (.slice BD l.length dD)) (ds:=[]) #[false,false,false,false,false,false,false,false,false,false,false,false,false,false,false,false] (by kernel_rfl) rfl rfl ⟨zC0,zC1,zE0,zE1,zD0,zD1⟩ (fun hHeld=>?_)
         clear zC0 zC1 zE0 zE1 zD0 zD1
         replace HS:=Aside0.mk (HS.out.below hd0)
         have HB:=Aside0.mk hd0
         clear hd0
         generalize W10.drew = W11 at HS HB hHeld ⊢
         refine pure_ (i:=0) (N:=(some 76)) (v:=?_) (a':=?_) #[true,false,false,false,false,false,false,false,false,false,false,false,false,false,false,false] rfl rfl (by kernel_rfl) (fun _ _ _ h=>h) (Or.inl ⟨by rfl,?_⟩) ?_ ?_
         rotate_left
         · intro w'
           go_simp
           with_reducible rfl
         rotate_left
         · simp only [Act.put,List.setIfInBounds_toArray,List.set_cons_zero,List.set_cons_succ,i64_w,i32_w]
           rfl
         refine pure_ (i:=1) (N:=(some 77)) (v:=?_) (a':=?_) #[true,true,false,false,false,false,false,false,false,false,false,false,false,false,false,false] rfl rfl (by kernel_rfl) (fun _ _ _ h=>h) (Or.inl ⟨by rfl,?_⟩) ?_ ?_
         rotate_left
         · intro w'
           go_simp
           with_reducible rfl
         rotate_left
         · simp only [Act.put,List.setIfInBounds_toArray,List.set_cons_zero,List.set_cons_succ,i64_w,i32_w]
           rfl
         refine pure_ (i:=2) (N:=(some 78)) (v:=?_) (a':=?_) #[true,true,true,false,false,false,false,false,false,false,false,false,false,false,false,false] rfl rfl (by kernel_rfl) (fun _ _ _ h=>h) (Or.inl ⟨by rfl,?_⟩) ?_ ?_
         rotate_left
         · intro w'
           go_simp
           with_reducible rfl
         rotate_left
         · simp only [Act.put,List.setIfInBounds_toArray,List.set_cons_zero,List.set_cons_succ,i64_w,i32_w]
           rfl
         refine pure_ (i:=3) (N:=(some 79)) (v:=?_) (a':=?_) #[true,true,true,true,false,false,false,false,false,false,false,false,false,false,false,false] rfl rfl (by kernel_rfl) (fun _ _ _ h=>h) (Or.inl ⟨by rfl,?_⟩) ?_ ?_
         rotate_left
         · intro w'
           go_simp
           with_reducible rfl
         rotate_left
         · simp only [Act.put,List.setIfInBounds_toArray,List.set_cons_zero,List.set_cons_succ,i64_w,i32_w]
           rfl
         refine take_ (i:=4) (N:=(some 80)) (v:=?_) (a':=?_) #[true,true,true,true,true,false,false,false,false,false,false,false,false,false,false,false] rfl rfl (by kernel_rfl) (fun _ _ _ h=>h) (Or.inl ⟨by rfl,?_⟩) hHeld ?_ ?_
         rotate_left
         · intro w' ⟨s0,s1,s2,s3,s4,s5⟩
           go_simp
           with_reducible rfl
         rotate_left
         · simp only [Act.put,List.setIfInBounds_toArray,List.set_cons_zero,List.set_cons_succ,i64_w,i32_w]
           rfl
         refine take_ (i:=5) (N:=(some 81)) (v:=?_) (a':=?_) #[true,true,true,true,true,true,false,false,false,false,false,false,false,false,false,false] rfl rfl (by kernel_rfl) (fun _ _ _ h=>h) (Or.inl ⟨by rfl,?_⟩) hHeld ?_ ?_
         rotate_left
         · intro w' ⟨s0,s1,s2,s3,s4,s5⟩
           go_simp
           with_reducible rfl
         rotate_left
         · simp only [Act.put,List.setIfInBounds_toArray,List.set_cons_zero,List.set_cons_succ,i64_w,i32_w]
           rfl
         refine one_ (i:=6) (N:=(some 82)) #[true,true,true,true,true,true,true,false,false,false,false,false,false,false,false,false] rfl rfl (by kernel_rfl) (by decide) (fun K hK=>?_)
         refine goes_ Try.func10 (by kernel_rfl) rfl #[.agg #[.slice AC cs.length cC,.slice BC cl.length dC],.agg #[.slice AE cs.length cE,.slice BE cl.length dE]] (by rfl) rfl rfl (by (try simp only [List.map_toArray,List.map_cons,List.map_nil]);first|done|rfl) ?_
         refine (laws_sameDisk.calls k AC cC cs BC dC cl AE cE cs BE dE cl true W11 (HS.out.get 1 rfl).2.1.1 (HS.out.get 1 rfl).2.1.2 (HS.out.get 1 rfl).2.2.1 (HS.out.get 1 rfl).2.2.2 (HS.out.get 0 rfl).2.1.1 (HS.out.get 0 rfl).2.1.2 (HS.out.get 0 rfl).2.2.1 (HS.out.get 0 rfl).2.2.2 H.out.sd).mono ?_
         rintro e W12 ⟨rfl,hd⟩
         refine ⟨_,rfl,?_⟩
         replace HS:=Aside0.mk (HS.out.below hd)
         replace HB:=Aside0.mk (below_step HB.out hd)
         clear hd hHeld
         refine hK.out _ _ ⟨(HS.out.get 1 rfl).cells.1,(HS.out.get 1 rfl).cells.2,(HS.out.get 0 rfl).cells.1,(HS.out.get 0 rfl).cells.2,(HS.out.get 2 rfl).cells.1,(HS.out.get 2 rfl).cells.2⟩ (fun hHeld=>?_)
         clear hK K
         refine norm_ (a':=?_) ?_ ?_
         rotate_left
         · show Act.put _ (some 82) _ = _
           simp only [Act.put,List.setIfInBounds_toArray,List.set_cons_zero,List.set_cons_succ,i64_w,i32_w]
           rfl
         refine pure_ (i:=7) (N:=(some 83)) (v:=?_) (a':=?_) #[true,true,true,true,true,true,true,true,false,false,false,false,false,false,false,false] rfl rfl (by kernel_rfl) (fun _ _ _ h=>h) (Or.inl ⟨by rfl,?_⟩) ?_ ?_
         rotate_left
         · intro w'
           go_simp
           with_reducible rfl
         rotate_left
         · simp only [Act.put,List.setIfInBounds_toArray,List.set_cons_zero,List.set_cons_succ,i64_w,i32_w]
           rfl
         refine pure_ (i:=8) (N:=(some 84)) (v:=?_) (a':=?_) #[true,true,true,true,true,true,true,true,true,false,false,false,false,false,false,false] rfl rfl (by kernel_rfl) (fun _ _ _ h=>h) (Or.inl ⟨by rfl,?_⟩) ?_ ?_
         rotate_left
         · intro w'
           go_simp
           with_reducible rfl
         rotate_left
         · simp only [Act.put,List.setIfInBounds_toArray,List.set_cons_zero,List.set_cons_succ,i64_w,i32_w]
           rfl
         refine pure_ (i:=9) (N:=(some 85)) (v:=?_) (a':=?_) #[true,true,true,true,true,true,true,true,true,true,false,false,false,false,false,false] rfl rfl (by kernel_rfl) (fun _ _ _ h=>h) (Or.inl ⟨by rfl,?_⟩) ?_ ?_
         rotate_left
         · intro w'
           go_simp
           with_reducible rfl
         rotate_left
         · simp only [Act.put,List.setIfInBounds_toArray,List.set_cons_zero,List.set_cons_succ,i64_w,i32_w]
           rfl
         refine take_ (i:=10) (N:=(some 86)) (v:=?_) (a':=?_) #[true,true,true,true,true,true,true,true,true,true,true,false,false,false,false,false] rfl rfl (by kernel_rfl) (fun _ _ _ h=>h) (Or.inl ⟨by rfl,?_⟩) hHeld ?_ ?_
         rotate_left
         · intro w' ⟨s0,s1,s2,s3,s4,s5⟩
           go_simp
           with_reducible rfl
         rotate_left
         · simp only [Act.put,List.setIfInBounds_toArray,List.set_cons_zero,List.set_cons_succ,i64_w,i32_w]
           rfl
         refine take_ (i:=12) (N:=(some 88)) (v:=?_) (a':=?_) #[true,true,true,true,true,true,true,true,true,true,true,false,true,false,false,false] rfl rfl (by kernel_rfl) (fun _ _ _ h=>h) (Or.inl ⟨by rfl,?_⟩) hHeld ?_ ?_
         rotate_left
         · intro w' ⟨s0,s1,s2,s3,s4,s5⟩
           go_simp
           with_reducible rfl
         rotate_left
         · simp only [Act.put,List.setIfInBounds_toArray,List.set_cons_zero,List.set_cons_succ,i64_w,i32_w]
           rfl
         refine one_ (i:=11) (N:=(some 87)) #[true,true,true,true,true,true,true,true,true,true,true,true,true,false,false,false] rfl rfl (by kernel_rfl) (by decide) (fun K hK=>?_)
         refine goes_ Try.func11 (by kernel_rfl) rfl #[.agg #[.slice AD s.length cD,.slice BD l.length dD]] (by rfl) rfl rfl (by (try simp only [List.map_toArray,List.map_cons,List.map_nil]);first|done|rfl) ?_
         refine (impl_GoodDisk.calls k _ AD cD s _ BD dD l gd W12 (RW.V (HS.out.get 2 rfl).2.1) (RW.V (HS.out.get 2 rfl).2.2) H.out.ig).mono ?_
         rintro e W13 ⟨rfl,hd⟩
         refine ⟨_,rfl,?_⟩
         replace HS:=Aside0.mk (HS.out.below hd)
         replace HB:=Aside0.mk (below_step HB.out hd)
         clear hd hHeld
         refine hK.out _ _ ⟨(HS.out.get 1 rfl).cells.1,(HS.out.get 1 rfl).cells.2,(HS.out.get 0 rfl).cells.1,(HS.out.get 0 rfl).cells.2,(HS.out.get 2 rfl).cells.1,(HS.out.get 2 rfl).cells.2⟩ (fun hHeld=>?_)
         clear hK K
         refine norm_ (a':=?_) ?_ ?_
         rotate_left
         · show Act.put _ (some 87) _ = _
           simp only [Act.put,List.setIfInBounds_toArray,List.set_cons_zero,List.set_cons_succ,i64_w,i32_w]
           rfl
         refine one_ (i:=13) (N:=(some 89)) #[true,true,true,true,true,true,true,true,true,true,true,true,true,true,false,false] rfl rfl (by kernel_rfl) (by decide) (fun K hK=>?_)
         refine goes_ Try.func12 (by kernel_rfl) rfl #[.agg #[.slice AD s.length cD,.slice BD l.length dD]] (by rfl) rfl rfl (by (try simp only [List.map_toArray,List.map_cons,List.map_nil]);first|done|rfl) ?_
         refine (spec_GoodDisk.calls k AD cD s BD dD l gd W13 (HS.out.get 2 rfl).2.1.1 (HS.out.get 2 rfl).2.1.2 (HS.out.get 2 rfl).2.2.1 (HS.out.get 2 rfl).2.2.2 H.out.sg).mono ?_
         rintro e W14 ⟨rfl,hd⟩
         refine ⟨_,rfl,?_⟩
         replace HS:=Aside0.mk (HS.out.below hd)
         replace HB:=Aside0.mk (below_step HB.out hd)
         clear hd hHeld
         refine hK.out _ _ ⟨(HS.out.get 1 rfl).cells.1,(HS.out.get 1 rfl).cells.2,(HS.out.get 0 rfl).cells.1,(HS.out.get 0 rfl).cells.2,(HS.out.get 2 rfl).cells.1,(HS.out.get 2 rfl).cells.2⟩ (fun hHeld=>?_)
         clear hK K
         refine norm_ (a':=?_) ?_ ?_
         rotate_left
         · show Act.put _ (some 89) _ = _
           simp only [Act.put,List.setIfInBounds_toArray,List.set_cons_zero,List.set_cons_succ,i64_w,i32_w]
           rfl
         refine pure_ (i:=14) (N:=(some 90)) (v:=?_) (a':=?_) #[true,true,true,true,true,true,true,true,true,true,true,true,true,true,true,false] rfl rfl (by kernel_rfl) (fun _ _ _ h=>h) (Or.inl ⟨by rfl,?_⟩) ?_ ?_
         rotate_left
         · intro w'
           go_simp
           with_reducible rfl
         rotate_left
         · simp only [Act.put,List.setIfInBounds_toArray,List.set_cons_zero,List.set_cons_succ,i64_w,i32_w]
           rfl
         refine pure_ (i:=15) (N:=(some 91)) (v:=?_) (a':=?_) #[true,true,true,true,true,true,true,true,true,true,true,true,true,true,true,true] rfl rfl (by kernel_rfl) (fun _ _ _ h=>h) (Or.inl ⟨by rfl,?_⟩) ?_ ?_
         rotate_left
         · intro w'
           go_simp
           with_reducible rfl
         rotate_left
         · simp only [Act.put,List.setIfInBounds_toArray,List.set_cons_zero,List.set_cons_succ,i64_w,i32_w]
           rfl
         refine done_ (by kernel_rfl) ?_
         go_wp2
         go_meet
         case rel=>exact ⟨by cases gd <;> rfl,HB⟩
        )
    case rest =>
      obtain ⟨rfl,⟨hB⟩⟩:=hcut
      replace HS:=Aside0.mk (HS.out.below hB)
      clear hB
      go_upto_if 92 with fail
      go_cut [] (fun wd=>Aside0 (Below wc.heap.size wc wd))
      case first =>
        as_aux_lemma =>
          have HB:=Aside0.mk (Below.refl wc.heap.size wc)
          cases ok with
          | false =>
            go_wp2
            go_meet
            case rel=>exact HB
          | true =>
            obtain ⟨ahead,used,sure,us,ms,ml,behind,ag,al,ps,pl,six,lt,ul,sev,I⟩:=H.out.inn rfl
            have I:=Aside0.mk I
            replace HS:=Aside0.mk (Hold.cons (show ∀ w',Below wc.heap.size wc w' → Below wc.heap.size wc w' from fun _ h=>h) HS.out)
            clear HB
            obtain ⟨zD0,zD1⟩:=(HS.out.get 3 rfl).cells
            have hcall:=impl_TextsOn.calls k AD cD s BD dD l ahead used true wc (HS.out.get 3 rfl).2.1.1 (HS.out.get 3 rfl).2.1.2 (HS.out.get 3 rfl).2.2.1 (HS.out.get 3 rfl).2.2.2 I.out.ta
            go_wp2_with (go_at_call 13;refine hcall.mono ?_)
            rintro e W15 ⟨v0,rfl,q0,hd⟩
            clear zD0 zD1
            replace HS:=Aside0.mk (HS.out.below hd)
            obtain ⟨Aah,cah,rfl,hR⟩:=RW.of q0
            replace HS:=Aside0.mk (Hold.cons hR.all HS.out)
            clear hcall hd q0 hR
            obtain ⟨zD0,zD1⟩:=(HS.out.get 4 rfl).cells
            have hcall0:=impl_TextsOn.calls k AD cD s none 0 [] sure us true W15 (HS.out.get 4 rfl).2.1.1 (HS.out.get 4 rfl).2.1.2 (Kd.C_nil Kd.string W15) (Nat.le_refl 0) I.out.ts
            simp only [List.length_nil] at hcall0
            have hcall:=hcall0
            go_wp2_with (go_at_call 13;refine hcall.mono ?_)
            rintro e W16 ⟨v0,rfl,q0,hd⟩
            clear zD0 zD1
            replace HS:=Aside0.mk (HS.out.below hd)
            obtain ⟨Asu,csu,rfl,hR⟩:=RW.of q0
            replace HS:=Aside0.mk (Hold.cons hR.all HS.out)
            clear hcall hd q0 hR
            clear hcall0
            obtain ⟨zC0,zC1⟩:=(HS.out.get 4 rfl).cells
            have hcall:=impl_MendDisk.calls k AC cC cs BC dC cl ms ml true W16 (HS.out.get 4 rfl).2.1.1 (HS.out.get 4 rfl).2.1.2 (HS.out.get 4 rfl).2.2.1 (HS.out.get 4 rfl).2.2.2 I.out.m1
            go_wp2_with (go_at_call 14;refine hcall.mono ?_)
            rintro e W17 ⟨v0,v1,rfl,q0,q1,hd⟩
            clear zC0 zC1
            replace HS:=Aside0.mk (HS.out.below hd)
            obtain ⟨AM,cM,BM,dM,rfl,rfl,hD⟩:=DK.of q0 q1
            have HD:=Aside0.mk hD
            clear hcall hd q0 q1 hD
            go_upto_region 12 with ((with_reducible refine gate_dst (N:=18) rfl ?_);refine box_event ?hg (N:=18) ?hd (cs:=#[.slice none 0 0,.slice none 0 0]) (t:=26) ?hr ?_;(case hd=>rfl);(case hg=>rfl);(case hr=>exact Yg);intro gM hg W18 hx hb;have hz0:W18.cell? ⟨gM,0,none⟩ = some (.slice none 0 0):=(blk_cell hx 0).trans rfl;have hz1:W18.cell? ⟨gM,1,none⟩ = some (.slice none 0 0):=(blk_cell hx 1).trans rfl;have hy0:=blk_frozen hx 0;have hy1:=blk_frozen hx 1;replace hg:=Aside0.mk hg)
            obtain ⟨W19,hW,hd,hX⟩:=BX.put hg.out hx hb HD.out
            rw [← hW]
            replace HS:=Aside0.mk (HS.out.below hd)
            replace HS:=Aside0.mk (Hold.cons hX.all HS.out)
            clear hg hx hb HD hW hd hX hz0 hz1 hy0 hy1
            obtain ⟨zM0,zM1⟩:=(HS.out.get 0 rfl).cells
            have hcall:=impl_TextsOn.calls k AM cM ms BM dM ml behind (ms.length:Int) true W19 (HS.out.get 0 rfl).2.1.1 (HS.out.get 0 rfl).2.1.2 (HS.out.get 0 rfl).2.2.1 (HS.out.get 0 rfl).2.2.2 I.out.tb
            go_wp2_with (go_at_call 13;refine hcall.mono ?_)
            rintro e W20 ⟨v0,rfl,q0,hd⟩
            clear zM0 zM1
            replace HS:=Aside0.mk (HS.out.below hd)
            obtain ⟨Abe,cbe,rfl,hR⟩:=RW.of q0
            replace HS:=Aside0.mk (Hold.cons hR.all HS.out)
            clear hcall hd q0 hR
            obtain ⟨zM0,zM1⟩:=(HS.out.get 1 rfl).cells
            have hcall:=impl_MendDisk.calls k AM cM ms BM dM ml ag al true W20 (HS.out.get 1 rfl).2.1.1 (HS.out.get 1 rfl).2.1.2 (HS.out.get 1 rfl).2.2.1 (HS.out.get 1 rfl).2.2.2 I.out.m2
            go_wp2_with (go_at_call 14;refine hcall.mono ?_)
            rintro e W21 ⟨v0,v1,rfl,q0,q1,hd⟩
            clear zM0 zM1
            replace HS:=Aside0.mk (HS.out.below hd)
            obtain ⟨AN,cN,BN,dN,rfl,rfl,hD⟩:=DK.of q0 q1
            have HD:=Aside0.mk hD
            clear hcall hd q0 q1 hD
            go_upto_region 14 with ((with_reducible refine gate_dst (N:=23) rfl ?_);refine box_event ?hg (N:=23) ?hd (cs:=#[.slice none 0 0,.slice none 0 0]) (t:=26) ?hr ?_;(case hd=>rfl);(case hg=>rfl);(case hr=>exact Yg);intro gN hg W22 hx hb;have hz0:W22.cell? ⟨gN,0,none⟩ = some (.slice none 0 0):=(blk_cell hx 0).trans rfl;have hz1:W22.cell? ⟨gN,1,none⟩ = some (.slice none 0 0):=(blk_cell hx 1).trans rfl;have hy0:=blk_frozen hx 0;have hy1:=blk_frozen hx 1;replace hg:=Aside0.mk hg)
            obtain ⟨W23,hW,hd,hX⟩:=BX.put hg.out hx hb HD.out
            rw [← hW]
            replace HS:=Aside0.mk (HS.out.below hd)
            replace HS:=Aside0.mk (Hold.cons hX.all HS.out)
            clear hg hx hb HD hW hd hX hz0 hz1 hy0 hy1
            obtain ⟨zM0,zM1⟩:=(HS.out.get 2 rfl).cells
            obtain ⟨zN0,zN1⟩:=(HS.out.get 0 rfl).cells
            have hcall:=laws_sameDisk.calls k AN cN ag BN dN al AM cM ms BM dM ml true W23 (HS.out.get 0 rfl).2.1.1 (HS.out.get 0 rfl).2.1.2 (HS.out.get 0 rfl).2.2.1 (HS.out.get 0 rfl).2.2.2 (HS.out.get 2 rfl).2.1.1 (HS.out.get 2 rfl).2.1.2 (HS.out.get 2 rfl).2.2.1 (HS.out.get 2 rfl).2.2.2 I.out.sm
            go_wp2_with (go_at_call 10;refine hcall.mono ?_)
            rintro e W24 ⟨rfl,hd⟩
            clear zM0 zM1 zN0 zN1
            replace HS:=Aside0.mk (HS.out.below hd)
            clear hcall hd
            obtain ⟨zD0,zD1⟩:=(HS.out.get 8 rfl).cells
            go_upto_if 162 with fail
            clear zD0 zD1
            have hfr:=Aside0.mk I.out.fr
            generalize wrap64 ((s.length:Int) + (l.length:Int)) = nn at hfr ⊢
            go_cut [] (fun wd=>Aside0 (Below W24.heap.size W24 wd))
            case first =>
              as_aux_lemma =>
                have HB:=Aside0.mk (Below.refl W24.heap.size W24)
                by_cases hu:used = nn
                · have hu1:=beq_iff_eq.mpr hu
                  obtain ⟨hle1,hle2,hst⟩:=hfr.out hu
                  clear hu
                  have hR:=(HS.out.get 4 rfl)
                  have hb:=(HS.out.get 1 rfl)
                  obtain ⟨tk,htk⟩:∃ t_,t_ = ahead.take behind.length:=⟨_,rfl⟩
                  rw [← htk] at hst
                  have htl:tk.length = behind.length:=by rw [htk,List.length_take];omega
                  obtain ⟨i9,hi9,_⟩:=info_parts info9
                  have hcut1:=cut_to (P:=Try.prog) 24 9 .i64 Try.underlying24 hi9 Aah ahead.length cah (behind.length:Int) (by omega) (by omega) hR.2
                  rw [show ((behind.length:Int)).toNat = tk.length by omega] at hcut1
                  have hT:=Kd.C_take (m:=behind.length) hR.1 hle1
                  rw [← htk] at hT
                  have hTc:tk.length ≤ cah:=by have:=hR.2;omega
                  have hcall:=laws_sameTexts.calls k Aah cah tk Abe cbe behind true W24 hT hTc hb.1 hb.2 hst
                  replace hi9:=Aside0.mk hi9
                  clear hR hb hT hTc htk htl hst
                  go_wp2_with (go_at_call 15;refine hcall.mono ?_)
                  rintro e W25 ⟨rfl,hd⟩
                  replace HB:=Aside0.mk hd.below
                  go_wp2
                  go_meet
                  case rel=>exact HB
                · have hu1:=beq_eq_false_iff_ne.mpr hu
                  clear hu
                  go_wp2
                  go_meet
                  case rel=>exact HB
            case rest =>
              as_aux_lemma =>
                rename World=>Wr
                replace HS:=Aside0.mk (HS.out.below hcut.out)
                clear hcut
                obtain ⟨zM0,zM1⟩:=(HS.out.get 2 rfl).cells
                have hcall:=impl_PutText.calls k AM cM ms BM dM ml laws_FnDisk.more ps pl six Wr (HS.out.get 2 rfl).2.1.1 (HS.out.get 2 rfl).2.1.2 (HS.out.get 2 rfl).2.2.1 (HS.out.get 2 rfl).2.2.2 I.out.pt
                go_wp2_with (go_at_call 16;refine hcall.mono ?_)
                rintro e W26 ⟨v0,v1,rfl,q0,q1,hd⟩
                clear zM0 zM1
                replace HS:=Aside0.mk (HS.out.below hd)
                obtain ⟨AQ,cQ,BQ,dQ,rfl,rfl,hD⟩:=DK.of q0 q1
                have HD:=Aside0.mk hD
                clear hcall hd q0 q1 hD
                go_upto_region 20 with ((with_reducible refine gate_dst (N:=25) rfl ?_);refine box_event ?hg (N:=25) ?hd (cs:=#[.slice none 0 0,.slice none 0 0]) (t:=26) ?hr ?_;(case hd=>rfl);(case hg=>rfl);(case hr=>exact Yg);intro gQ hg W27 hx hb;have hz0:W27.cell? ⟨gQ,0,none⟩ = some (.slice none 0 0):=(blk_cell hx 0).trans rfl;have hz1:W27.cell? ⟨gQ,1,none⟩ = some (.slice none 0 0):=(blk_cell hx 1).trans rfl;have hy0:=blk_frozen hx 0;have hy1:=blk_frozen hx 1;replace hg:=Aside0.mk hg)
                obtain ⟨W28,hW,hd,hX⟩:=BX.put hg.out hx hb HD.out
                rw [← hW]
                replace HS:=Aside0.mk (HS.out.below hd)
                replace HS:=Aside0.mk (Hold.cons hX.all HS.out)
                clear hg hx hb HD hW hd hX hz0 hz1 hy0 hy1
                obtain ⟨zQ0,zQ1⟩:=(HS.out.get 0 rfl).cells
                have hcall:=impl_TextsOn.calls k AQ cQ ps BQ dQ pl lt ul sev W28 (HS.out.get 0 rfl).2.1.1 (HS.out.get 0 rfl).2.1.2 (HS.out.get 0 rfl).2.2.1 (HS.out.get 0 rfl).2.2.2 I.out.tp
                go_wp2_with (go_at_call 13;refine hcall.mono ?_)
                rintro e W29 ⟨v0,rfl,q0,hd⟩
                clear zQ0 zQ1
                replace HS:=Aside0.mk (HS.out.below hd)
                obtain ⟨Alt,clt,rfl,hR⟩:=RW.of q0
                replace HS:=Aside0.mk (Hold.cons hR.all HS.out)
                clear hcall hd q0 hR
                have HE:=Aside0.mk (HS.out.get 7 rfl)
                cases six with
                | false =>
                  go_wp2
                  go_meet
                  case rel=>exact HE
                | true =>
                  obtain ⟨rfl,h4,hlt,hrd⟩:=I.out.ls rfl
                  have t2:behind.length < lt.length:=by omega
                  obtain ⟨ad,eA,hcl⟩:=Kd.at_string (HS.out.get 0 rfl).1 (behind.length:Int) (by omega) (by omega)
                  subst eA
                  rw [hrd,Int.toNat_natCast] at hcl
                  unfold laws_FnDisk.more at hcl
                  have hlw:=one_more hlt h4
                  clear h4 hlt hrd
                  go_wp2
                  go_meet
                  case rel=>exact HE
      case rest =>
        rename World=>Wz
        replace HS:=Aside0.mk (HS.out.below hcut.out)
        clear hcut
        as_aux_lemma =>
          have hcall:=spec_DrawPutText.calls k A1 c1 l1 e0 e1 text Wz (HS.out.get 5 rfl) HL.out.2 H.out.dp
          go_wp2_with (go_at_call 17;refine hcall.mono ?_)
          rintro e W30 ⟨v0,v1,rfl,q0,q1,hd⟩
          replace HS:=Aside0.mk (HS.out.below hd)
          obtain ⟨AF,cF,BF,dF,rfl,rfl,hD⟩:=DK.of q0 q1
          have HD:=Aside0.mk hD
          clear hcall hd q0 q1 hD
          go_upto_region 24 with ((with_reducible refine gate_dst (N:=30) rfl ?_);refine box_event ?hg (N:=30) ?hd (cs:=#[.slice none 0 0,.slice none 0 0]) (t:=26) ?hr ?_;(case hd=>rfl);(case hg=>rfl);(case hr=>exact Yg);intro gF hg W31 hx hb;have hz0:W31.cell? ⟨gF,0,none⟩ = some (.slice none 0 0):=(blk_cell hx 0).trans rfl;have hz1:W31.cell? ⟨gF,1,none⟩ = some (.slice none 0 0):=(blk_cell hx 1).trans rfl;have hy0:=blk_frozen hx 0;have hy1:=blk_frozen hx 1;replace hg:=Aside0.mk hg)
          obtain ⟨W32,hW,hd,hX⟩:=BX.put hg.out hx hb HD.out
          rw [← hW]
          replace HS:=Aside0.mk (HS.out.below hd)
          replace HS:=Aside0.mk (Hold.cons hX.all HS.out)
          clear hg hx hb HD hW hd hX hz0 hz1 hy0 hy1
          obtain ⟨zF0,zF1⟩:=(HS.out.get 0 rfl).cells
          have hcall:=impl_PutText.calls k AF cF e0 BF dF e1 text p0 p1 one W32 (HS.out.get 0 rfl).2.1.1 (HS.out.get 0 rfl).2.1.2 (HS.out.get 0 rfl).2.2.1 (HS.out.get 0 rfl).2.2.2 H.out.ip
          go_wp2_with (go_at_call 16;refine hcall.mono ?_)
          rintro e W33 ⟨v0,v1,rfl,q0,q1,hd⟩
          clear zF0 zF1
          replace HS:=Aside0.mk (HS.out.below hd)
          obtain ⟨AG,cG,BG,dG,rfl,rfl,hD⟩:=DK.of q0 q1
          have HD:=Aside0.mk hD
          clear hcall hd q0 q1 hD
          go_upto_region 25 with ((with_reducible refine gate_dst (N:=32) rfl ?_);refine box_event ?hg (N:=32) ?hd (cs:=#[.slice none 0 0,.slice none 0 0]) (t:=26) ?hr ?_;(case hd=>rfl);(case hg=>rfl);(case hr=>exact Yg);intro gG hg W34 hx hb;have hz0:W34.cell? ⟨gG,0,none⟩ = some (.slice none 0 0):=(blk_cell hx 0).trans rfl;have hz1:W34.cell? ⟨gG,1,none⟩ = some (.slice none 0 0):=(blk_cell hx 1).trans rfl;have hy0:=blk_frozen hx 0;have hy1:=blk_frozen hx 1;replace hg:=Aside0.mk hg)
          obtain ⟨W35,hW,hd,hX⟩:=BX.put hg.out hx hb HD.out
          rw [← hW]
          replace HS:=Aside0.mk (HS.out.below hd)
          replace HS:=Aside0.mk (Hold.cons hX.all HS.out)
          clear hg hx hb HD hW hd hX hz0 hz1 hy0 hy1
          obtain ⟨zF0,zF1⟩:=(HS.out.get 1 rfl).cells
          have hcall:=spec_PutText.calls k AF cF e0 BF dF e1 text p0 p1 one W35 (HS.out.get 1 rfl).2.1.1 (HS.out.get 1 rfl).2.1.2 (HS.out.get 1 rfl).2.2.1 (HS.out.get 1 rfl).2.2.2 H.out.sp
          go_wp2_with (go_at_call 18;refine hcall.mono ?_)
          rintro e W36 ⟨v0,v1,rfl,q0,q1,hd⟩
          clear zF0 zF1
          replace HS:=Aside0.mk (HS.out.below hd)
          obtain ⟨AJ,cJ,BJ,dJ,rfl,rfl,hD⟩:=DK.of q0 q1
          have HD:=Aside0.mk hD
          clear hcall hd q0 q1 hD
          go_upto_region 26 with ((with_reducible refine gate_dst (N:=34) rfl ?_);refine box_event ?hg (N:=34) ?hd (cs:=#[.slice none 0 0,.slice none 0 0]) (t:=26) ?hr ?_;(case hd=>rfl);(case hg=>rfl);(case hr=>exact Yg);intro gJ hg W37 hx hb;have hz0:W37.cell? ⟨gJ,0,none⟩ = some (.slice none 0 0):=(blk_cell hx 0).trans rfl;have hz1:W37.cell? ⟨gJ,1,none⟩ = some (.slice none 0 0):=(blk_cell hx 1).trans rfl;have hy0:=blk_frozen hx 0;have hy1:=blk_frozen hx 1;replace hg:=Aside0.mk hg)
          obtain ⟨W38,hW,hd,hX⟩:=BX.put hg.out hx hb HD.out
          rw [← hW]
          replace HS:=Aside0.mk (HS.out.below hd)
          replace HS:=Aside0.mk (Hold.cons hX.all HS.out)
          clear hg hx hb HD hW hd hX hz0 hz1 hy0 hy1
          have hcall:=spec_DrawTextsOn.calls k A1 c1 l1 f0 f1 W38 (HS.out.get 8 rfl) HL.out.2 H.out.dt
          go_wp2_with (go_at_call 19;refine hcall.mono ?_)
          rintro e W39 ⟨v0,v1,rfl,q0,q1,hd⟩
          replace HS:=Aside0.mk (HS.out.below hd)
          obtain ⟨AK,cK,BK,dK,rfl,rfl,hD⟩:=DK.of q0 q1
          have HD:=Aside0.mk hD
          clear hcall hd q0 q1 hD
          go_upto_region 27 with ((with_reducible refine gate_dst (N:=36) rfl ?_);refine box_event ?hg (N:=36) ?hd (cs:=#[.slice none 0 0,.slice none 0 0]) (t:=26) ?hr ?_;(case hd=>rfl);(case hg=>rfl);(case hr=>exact Yg);intro gK hg W40 hx hb;have hz0:W40.cell? ⟨gK,0,none⟩ = some (.slice none 0 0):=(blk_cell hx 0).trans rfl;have hz1:W40.cell? ⟨gK,1,none⟩ = some (.slice none 0 0):=(blk_cell hx 1).trans rfl;have hy0:=blk_frozen hx 0;have hy1:=blk_frozen hx 1;replace hg:=Aside0.mk hg)
          obtain ⟨W41,hW,hd,hX⟩:=BX.put hg.out hx hb HD.out
          rw [← hW]
          replace HS:=Aside0.mk (HS.out.below hd)
          replace HS:=Aside0.mk (Hold.cons hX.all HS.out)
          clear hg hx hb HD hW hd hX hz0 hz1 hy0 hy1
          obtain ⟨zK0,zK1⟩:=(HS.out.get 0 rfl).cells
          have hcall:=impl_TextsOn.calls k AK cK f0 BK dK f1 tx un three W41 (HS.out.get 0 rfl).2.1.1 (HS.out.get 0 rfl).2.1.2 (HS.out.get 0 rfl).2.2.1 (HS.out.get 0 rfl).2.2.2 H.out.it
          go_wp2_with (go_at_call 13;refine hcall.mono ?_)
          rintro e W42 ⟨v0,rfl,q0,hd⟩
          clear zK0 zK1
          replace HS:=Aside0.mk (HS.out.below hd)
          obtain ⟨Ata,cta,rfl,hR⟩:=RW.of q0
          replace HS:=Aside0.mk (Hold.cons hR.all HS.out)
          clear hcall hd q0 hR
          obtain ⟨zK0,zK1⟩:=(HS.out.get 1 rfl).cells
          have hcall:=spec_TextsOn.calls k AK cK f0 BK dK f1 tx un three W42 (HS.out.get 1 rfl).2.1.1 (HS.out.get 1 rfl).2.1.2 (HS.out.get 1 rfl).2.2.1 (HS.out.get 1 rfl).2.2.2 H.out.st
          go_wp2_with (go_at_call 20;refine hcall.mono ?_)
          rintro e W43 ⟨v0,rfl,q0,hd⟩
          clear zK0 zK1
          replace HS:=Aside0.mk (HS.out.below hd)
          obtain ⟨Atb,ctb,rfl,hR⟩:=RW.of q0
          replace HS:=Aside0.mk (Hold.cons hR.all HS.out)
          clear hcall hd q0 hR
          have hcall:=spec_DrawMendDisk.calls k A1 c1 l1 g0 g1 W43 (HS.out.get 11 rfl) HL.out.2 H.out.dm
          go_wp2_with (go_at_call 21;refine hcall.mono ?_)
          rintro e W44 ⟨v0,v1,rfl,q0,q1,hd⟩
          replace HS:=Aside0.mk (HS.out.below hd)
          obtain ⟨AO,cO,BO,dO,rfl,rfl,hD⟩:=DK.of q0 q1
          have HD:=Aside0.mk hD
          clear hcall hd q0 q1 hD
          go_upto_region 30 with ((with_reducible refine gate_dst (N:=43) rfl ?_);refine box_event ?hg (N:=43) ?hd (cs:=#[.slice none 0 0,.slice none 0 0]) (t:=26) ?hr ?_;(case hd=>rfl);(case hg=>rfl);(case hr=>exact Yg);intro gO hg W45 hx hb;have hz0:W45.cell? ⟨gO,0,none⟩ = some (.slice none 0 0):=(blk_cell hx 0).trans rfl;have hz1:W45.cell? ⟨gO,1,none⟩ = some (.slice none 0 0):=(blk_cell hx 1).trans rfl;have hy0:=blk_frozen hx 0;have hy1:=blk_frozen hx 1;replace hg:=Aside0.mk hg)
          obtain ⟨W46,hW,hd,hX⟩:=BX.put hg.out hx hb HD.out
          rw [← hW]
          replace HS:=Aside0.mk (HS.out.below hd)
          replace HS:=Aside0.mk (Hold.cons hX.all HS.out)
          clear hg hx hb HD hW hd hX hz0 hz1 hy0 hy1
          obtain ⟨zO0,zO1⟩:=(HS.out.get 0 rfl).cells
          have hcall:=impl_MendDisk.calls k AO cO g0 BO dO g1 n0 n1 five W46 (HS.out.get 0 rfl).2.1.1 (HS.out.get 0 rfl).2.1.2 (HS.out.get 0 rfl).2.2.1 (HS.out.get 0 rfl).2.2.2 H.out.im
          go_wp2_with (go_at_call 14;refine hcall.mono ?_)
          rintro e W47 ⟨v0,v1,rfl,q0,q1,hd⟩
          clear zO0 zO1
          replace HS:=Aside0.mk (HS.out.below hd)
          obtain ⟨AR,cR,BR,dR,rfl,rfl,hD⟩:=DK.of q0 q1
          have HD:=Aside0.mk hD
          clear hcall hd q0 q1 hD
          go_upto_region 31 with ((with_reducible refine gate_dst (N:=44) rfl ?_);refine box_event ?hg (N:=44) ?hd (cs:=#[.slice none 0 0,.slice none 0 0]) (t:=26) ?hr ?_;(case hd=>rfl);(case hg=>rfl);(case hr=>exact Yg);intro gR hg W48 hx hb;have hz0:W48.cell? ⟨gR,0,none⟩ = some (.slice none 0 0):=(blk_cell hx 0).trans rfl;have hz1:W48.cell? ⟨gR,1,none⟩ = some (.slice none 0 0):=(blk_cell hx 1).trans rfl;have hy0:=blk_frozen hx 0;have hy1:=blk_frozen hx 1;replace hg:=Aside0.mk hg)
          obtain ⟨W49,hW,hd,hX⟩:=BX.put hg.out hx hb HD.out
          rw [← hW]
          replace HS:=Aside0.mk (HS.out.below hd)
          replace HS:=Aside0.mk (Hold.cons hX.all HS.out)
          clear hg hx hb HD hW hd hX hz0 hz1 hy0 hy1
          obtain ⟨zO0,zO1⟩:=(HS.out.get 1 rfl).cells
          have hcall:=spec_MendDisk.calls k AO cO g0 BO dO g1 n0 n1 five W49 (HS.out.get 1 rfl).2.1.1 (HS.out.get 1 rfl).2.1.2 (HS.out.get 1 rfl).2.2.1 (HS.out.get 1 rfl).2.2.2 H.out.sm
          go_wp2_with (go_at_call 22;refine hcall.mono ?_)
          rintro e W50 ⟨v0,v1,rfl,q0,q1,hd⟩
          clear zO0 zO1
          replace HS:=Aside0.mk (HS.out.below hd)
          obtain ⟨AS,cS,BS,dS,rfl,rfl,hD⟩:=DK.of q0 q1
          have HD:=Aside0.mk hD
          clear hcall hd q0 q1 hD
          go_upto_region 32 with ((with_reducible refine gate_dst (N:=46) rfl ?_);refine box_event ?hg (N:=46) ?hd (cs:=#[.slice none 0 0,.slice none 0 0]) (t:=26) ?hr ?_;(case hd=>rfl);(case hg=>rfl);(case hr=>exact Yg);intro gS hg W51 hx hb;have hz0:W51.cell? ⟨gS,0,none⟩ = some (.slice none 0 0):=(blk_cell hx 0).trans rfl;have hz1:W51.cell? ⟨gS,1,none⟩ = some (.slice none 0 0):=(blk_cell hx 1).trans rfl;have hy0:=blk_frozen hx 0;have hy1:=blk_frozen hx 1;replace hg:=Aside0.mk hg)
          obtain ⟨W52,hW,hd,hX⟩:=BX.put hg.out hx hb HD.out
          rw [← hW]
          replace HS:=Aside0.mk (HS.out.below hd)
          replace HS:=Aside0.mk (Hold.cons hX.all HS.out)
          clear hg hx hb HD hW hd hX hz0 hz1 hy0 hy1
          have hcall:=spec_DrawSyncDisk.calls k A1 c1 l1 h0 h1 W52 (HS.out.get 14 rfl) HL.out.2 H.out.ds
          go_wp2_with (go_at_call 23;refine hcall.mono ?_)
          rintro e W53 ⟨v0,v1,rfl,q0,q1,hd⟩
          replace HS:=Aside0.mk (HS.out.below hd)
          obtain ⟨AT,cT,BT,dT,rfl,rfl,hD⟩:=DK.of q0 q1
          have HD:=Aside0.mk hD
          clear hcall hd q0 q1 hD
          go_upto_region 33 with ((with_reducible refine gate_dst (N:=48) rfl ?_);refine box_event ?hg (N:=48) ?hd (cs:=#[.slice none 0 0,.slice none 0 0]) (t:=26) ?hr ?_;(case hd=>rfl);(case hg=>rfl);(case hr=>exact Yg);intro gT hg W54 hx hb;have hz0:W54.cell? ⟨gT,0,none⟩ = some (.slice none 0 0):=(blk_cell hx 0).trans rfl;have hz1:W54.cell? ⟨gT,1,none⟩ = some (.slice none 0 0):=(blk_cell hx 1).trans rfl;have hy0:=blk_frozen hx 0;have hy1:=blk_frozen hx 1;replace hg:=Aside0.mk hg)
          obtain ⟨W55,hW,hd,hX⟩:=BX.put hg.out hx hb HD.out
          rw [← hW]
          replace HS:=Aside0.mk (HS.out.below hd)
          replace HS:=Aside0.mk (Hold.cons hX.all HS.out)
          clear hg hx hb HD hW hd hX hz0 hz1 hy0 hy1
          obtain ⟨zT0,zT1⟩:=(HS.out.get 0 rfl).cells
          have hcall:=impl_SyncDisk.calls k _ AT cT h0 _ BT dT h1 y0 y1 seven W55 (RW.V (HS.out.get 0 rfl).2.1) (RW.V (HS.out.get 0 rfl).2.2) H.out.is
          go_wp2_with (go_at_call 24;refine hcall.mono ?_)
          rintro e W56 ⟨v0,v1,rfl,q0,q1,hd⟩
          clear zT0 zT1
          replace HS:=Aside0.mk (HS.out.below hd)
          obtain ⟨AU,cU,BU,dU,rfl,rfl,hD⟩:=DK.of q0 q1
          have HD:=Aside0.mk hD
          clear hcall hd q0 q1 hD
          go_upto_region 34 with ((with_reducible refine gate_dst (N:=49) rfl ?_);refine box_event ?hg (N:=49) ?hd (cs:=#[.slice none 0 0,.slice none 0 0]) (t:=26) ?hr ?_;(case hd=>rfl);(case hg=>rfl);(case hr=>exact Yg);intro gU hg W57 hx hb;have hz0:W57.cell? ⟨gU,0,none⟩ = some (.slice none 0 0):=(blk_cell hx 0).trans rfl;have hz1:W57.cell? ⟨gU,1,none⟩ = some (.slice none 0 0):=(blk_cell hx 1).trans rfl;have hy0:=blk_frozen hx 0;have hy1:=blk_frozen hx 1;replace hg:=Aside0.mk hg)
          obtain ⟨W58,hW,hd,hX⟩:=BX.put hg.out hx hb HD.out
          rw [← hW]
          replace HS:=Aside0.mk (HS.out.below hd)
          replace HS:=Aside0.mk (Hold.cons hX.all HS.out)
          clear hg hx hb HD hW hd hX hz0 hz1 hy0 hy1
          obtain ⟨zT0,zT1⟩:=(HS.out.get 1 rfl).cells
          have hcall:=spec_SyncDisk.calls k AT cT h0 BT dT h1 y0 y1 seven W58 (HS.out.get 1 rfl).2.1.1 (HS.out.get 1 rfl).2.1.2 (HS.out.get 1 rfl).2.2.1 (HS.out.get 1 rfl).2.2.2 H.out.ss
          go_wp2_with (go_at_call 25;refine hcall.mono ?_)
          rintro e W59 ⟨v0,v1,rfl,q0,q1,hd⟩
          clear zT0 zT1
          replace HS:=Aside0.mk (HS.out.below hd)
          obtain ⟨AV,cV,BV,dV,rfl,rfl,hD⟩:=DK.of q0 q1
          have HD:=Aside0.mk hD
          clear hcall hd q0 q1 hD
          go_upto_region 35 with ((with_reducible refine gate_dst (N:=51) rfl ?_);refine box_event ?hg (N:=51) ?hd (cs:=#[.slice none 0 0,.slice none 0 0]) (t:=26) ?hr ?_;(case hd=>rfl);(case hg=>rfl);(case hr=>exact Yg);intro gV hg W60 hx hb;have hz0:W60.cell? ⟨gV,0,none⟩ = some (.slice none 0 0):=(blk_cell hx 0).trans rfl;have hz1:W60.cell? ⟨gV,1,none⟩ = some (.slice none 0 0):=(blk_cell hx 1).trans rfl;have hy0:=blk_frozen hx 0;have hy1:=blk_frozen hx 1;replace hg:=Aside0.mk hg)
          obtain ⟨W61,hW,hd,hX⟩:=BX.put hg.out hx hb HD.out
          rw [← hW]
          replace HS:=Aside0.mk (HS.out.below hd)
          replace HS:=Aside0.mk (Hold.cons hX.all HS.out)
          clear hg hx hb HD hW hd hX hz0 hz1 hy0 hy1
          obtain ⟨zG0,zG1⟩:=(HS.out.get 10 rfl).cells
          obtain ⟨zJ0,zJ1⟩:=(HS.out.get 9 rfl).cells
          have hcall:=laws_sameDisk.calls k AG cG p0 BG dG p1 AJ cJ p0 BJ dJ p1 true W61 (HS.out.get 10 rfl).2.1.1 (HS.out.get 10 rfl).2.1.2 (HS.out.get 10 rfl).2.2.1 (HS.out.get 10 rfl).2.2.2 (HS.out.get 9 rfl).2.1.1 (HS.out.get 9 rfl).2.1.2 (HS.out.get 9 rfl).2.2.1 (HS.out.get 9 rfl).2.2.2 H.out.sp2
          go_wp2_with (go_at_call 10;refine hcall.mono ?_)
          rintro e W62 ⟨rfl,hd⟩
          clear zG0 zG1 zJ0 zJ1
          replace HS:=Aside0.mk (HS.out.below hd)
          clear hcall hd
          have hcall:=laws_sameTexts.calls k Ata cta tx Atb ctb tx true W62 (HS.out.get 7 rfl).1 (HS.out.get 7 rfl).2 (HS.out.get 6 rfl).1 (HS.out.get 6 rfl).2 H.out.stx
          go_wp2_with (go_at_call 15;refine hcall.mono ?_)
          rintro e W63 ⟨rfl,hd⟩
          replace HS:=Aside0.mk (HS.out.below hd.below)
          clear hcall hd
          obtain ⟨zR0,zR1⟩:=(HS.out.get 4 rfl).cells
          obtain ⟨zS0,zS1⟩:=(HS.out.get 3 rfl).cells
          have hcall:=laws_sameDisk.calls k AR cR n0 BR dR n1 AS cS n0 BS dS n1 true W63 (HS.out.get 4 rfl).2.1.1 (HS.out.get 4 rfl).2.1.2 (HS.out.get 4 rfl).2.2.1 (HS.out.get 4 rfl).2.2.2 (HS.out.get 3 rfl).2.1.1 (HS.out.get 3 rfl).2.1.2 (HS.out.get 3 rfl).2.2.1 (HS.out.get 3 rfl).2.2.2 H.out.sm2
          go_wp2_with (go_at_call 10;refine hcall.mono ?_)
          rintro e W64 ⟨rfl,hd⟩
          clear zR0 zR1 zS0 zS1
          replace HS:=Aside0.mk (HS.out.below hd)
          clear hcall hd
          obtain ⟨zU0,zU1⟩:=(HS.out.get 1 rfl).cells
          obtain ⟨zV0,zV1⟩:=(HS.out.get 0 rfl).cells
          have hcall:=laws_sameDisk.calls k AU cU y0 BU dU y1 AV cV y0 BV dV y1 true W64 (HS.out.get 1 rfl).2.1.1 (HS.out.get 1 rfl).2.1.2 (HS.out.get 1 rfl).2.2.1 (HS.out.get 1 rfl).2.2.2 (HS.out.get 0 rfl).2.1.1 (HS.out.get 0 rfl).2.1.2 (HS.out.get 0 rfl).2.2.1 (HS.out.get 0 rfl).2.2.2 H.out.ss2
          go_wp2_with (go_at_call 10;refine hcall.mono ?_)
          rintro e W65 ⟨rfl,hd⟩
          clear zU0 zU1 zV0 zV1
          replace HS:=Aside0.mk (HS.out.below hd)
          clear hcall hd
          go_wp2
          go_ret
          exact ⟨rfl,(HS.out.get 15 rfl)⟩

/-- THE ONE PURE STATEMENT of laws_FnDisk. -/
def laws_FnDisk.Pure:Prop:=∀ (l0 l1:List Int),l0.length ≤ maxLen → l0.length * 1 ≤ 140737488351232 → (∀ x ∈ l0,(Lit.int .u8 x).wf = true) → l1.length ≤ maxLen → l1.length * 1 ≤ 140737488351232 → (∀ x ∈ l1,(Lit.int .u8 x).wf = true) → ∃ (k:Nat) (bg:Bool),laws_big.f l0 l1 = some bg ∧ (bg = false → laws_FnDisk.Facts k l0 l1)
theorem laws_FnDisk.walk (P:laws_FnDisk.Pure) (a0:Option Addr) (len0 cap0:Nat) (z0:List Int) (a1:Option Addr) (len1 cap1:Nat) (z1:List Int) (w:World) (w0:(a0 = none ∧ len0 = 0 ∧ cap0 = 0 ∧ z0 = []) ∨ ∃ x,a0 = some x ∧ len0 ≤ cap0 ∧ cap0 ≤ maxLen ∧ z0.length = cap0 ∧ (∀ i,i < z0.length → w.cell? (x.add i) = some (.int .u8 (z0.getD i 0))) ∧ ∀ n ∈ z0,(Lit.int .u8 n).wf = true) (y0:len0 * 1 ≤ 140737488351232) (w1:(a1 = none ∧ len1 = 0 ∧ cap1 = 0 ∧ z1 = []) ∨ ∃ x,a1 = some x ∧ len1 ≤ cap1 ∧ cap1 ≤ maxLen ∧ z1.length = cap1 ∧ (∀ i,i < z1.length → w.cell? (x.add i) = some (.int .u8 (z1.getD i 0))) ∧ ∀ n ∈ z1,(Lit.int .u8 n).wf = true) (y1:len1 * 1 ≤ 140737488351232) :
    Calls Try.prog 3 #[.slice a0 len0 cap0,.slice a1 len1 cap1] w fun e w'=>e = .returned (.bool true) ∧ Below w.heap.size w w':=by
  obtain ⟨l0,rfl,hr0,hm0,hw0,hc0⟩:=ReadsInt.ofRowC w0
  obtain ⟨l1,rfl,hr1,hm1,hw1,hc1⟩:=ReadsInt.ofRowC w1
  obtain ⟨k,bg,hb,h⟩:=P l0 l1 hm0 y0 hw0 hm1 y1 hw1
  exact laws_FnDisk.walked k a0 cap0 l0 a1 cap1 l1 w (Kd.C_of_reads (d:=(0:Int)) (h1:=fun _=>rfl) hr0) hc0 (Kd.C_of_reads (d:=(0:Int)) (h1:=fun _=>rfl) hr1) hc1 bg hb h

end Go.Proofs.Ytmgkflkfoccgkab.QFnDisk
