-- Written by this session's own program (wip/x/xprint.py, over the kit's printer); Lean checks it.
import Derived.Test.YtamiedpgahpihaaQFnExactPutTextx0
import Derived.Test.YtamiedpgahpihaaQFnExactPutTextx3
namespace Go.Proofs.Ytamiedpgahpihaa.QFnExactPutText
open Go.RowKit Go.Proofs.YtamiedpgahpihaaW.PrintWords Go.Proofs.YtamiedpgahpihaaW.PrintLast Go.Proofs.YtamiedpgahpihaaW.PrintMore
attribute [local go_sem] max2_int min2_int max_two min_two max_three min_three max_four min_four   -- for this text's walks alone
set_option linter.unusedVariables false
set_option linter.unusedSimpArgs false

/-! ### spec_l13Own: function 42 -/
def spec_l13Own.f (l0_0:List ByteArray) (l0_1:List ByteArray):Option (List ByteArray × List ByteArray):=(some (([]:List ByteArray):List ByteArray)).bind fun y192=>(if y192.length + l0_0.length < 8796093022208 then ((some (([]:List ByteArray):List ByteArray)).bind fun y198=>(if y198.length + l0_1.length < 8796093022208 then (some ((y192 ++ l0_0),(y198 ++ l0_1))) else (none))) else (none))
def spec_l13Own.T1:Bool × List (List Nat × List Nat):=(true,[([],[]),([],[]),([1],[1]),([0,2],[0,2]),([],[]),([],[]),([5],[5]),([4,6,3],[4,6]),([3,7],[3,7]),([8,7,0,1,2,3,4,5,6,7,8],[8])])
def spec_l13Own.B1:List Nat:=[0,0,2,7,0,0,32,127,255,511]
theorem spec_l13Own.tab1:rtab .any (opsOf Try.f42 1) = spec_l13Own.T1:=by kernel_rfl
theorem spec_l13Own.bits1:waitsOk spec_l13Own.T1.2 spec_l13Own.B1 = true:=by kernel_rfl
set_option maxHeartbeats 8000000 in
set_option maxRecDepth 100000 in
theorem spec_l13Own.calls (A0_0:Option Addr) (c0_0:Nat) (l0_0:List ByteArray) (A0_1:Option Addr) (c0_1:Nat) (l0_1:List ByteArray) (r1:List ByteArray) (r2:List ByteArray) (w:World) (hr0_0:Kd.C Kd.string w A0_0 l0_0.length l0_0) (hc0_0:l0_0.length ≤ c0_0) (hr0_1:Kd.C Kd.string w A0_1 l0_1.length l0_1) (hc0_1:l0_1.length ≤ c0_1) (h:spec_l13Own.f l0_0 l0_1 = some (r1,r2)) :
  Calls Try.prog 42 #[.agg #[.slice A0_0 l0_0.length c0_0,.slice A0_1 l0_1.length c0_1]] w fun e w'=>∃ v0_ v1_:Value,e = .returned (.agg #[v0_,v1_]) ∧ Kd.R Kd.string 9 w' w.heap.size (fun k_=>some k_ ≠ (v1_:Value).ownBlock) v0_ r1 ∧ Kd.R Kd.string 9 w' w.heap.size (fun k_=>some k_ ≠ (v0_:Value).ownBlock) v1_ r2 ∧ Below w.heap.size w w':=by
 have hu34:=Try.underlying34
 have HR0_0:=Aside0.mk hr0_0
 have HC0_0:=Aside0.mk hc0_0
 clear hr0_0 hc0_0
 have HR0_1:=Aside0.mk hr0_1
 have HC0_1:=Aside0.mk hc0_1
 clear hr0_1 hc0_1
 have HB:=Aside0.mk (Below.refl w.heap.size w)
 have H:((some (([]:List ByteArray):List ByteArray)).bind fun y192=>(if y192.length + l0_0.length < 8796093022208 then ((some (([]:List ByteArray):List ByteArray)).bind fun y198=>(if y198.length + l0_1.length < 8796093022208 then (some ((y192 ++ l0_0),(y198 ++ l0_1))) else (none))) else (none))) = some (r1,r2):=h
 clear h
 obtain ⟨y192,hy192⟩:∃ y_:List ByteArray,y_ = (([]:List ByteArray)):=⟨_,rfl⟩
 replace H:(if y192.length + l0_0.length < 8796093022208 then ((some (([]:List ByteArray):List ByteArray)).bind fun y198=>(if y198.length + l0_1.length < 8796093022208 then (some ((y192 ++ l0_0),(y198 ++ l0_1))) else (none))) else (none)) = some (r1,r2):=by first|(rw [hy192];with_reducible exact H)|(have H2_:=(Option.bind_some _ _).symm.trans H;rw [hy192];with_reducible exact H2_)|(have H2_:=(Option.bind_some _ _).symm.trans H;with_reducible exact H2_)|with_reducible exact H|(rw [hy192];exact H)|exact H
 have Ny192:=Aside0.mk hy192
 clear hy192
 by_cases c2:y192.length + l0_0.length < 8796093022208
 ·rw [if_pos c2] at H
  have LMc2:=Aside0.mk c2
  clear c2
  obtain ⟨y195,hy195⟩:∃ y_:List ByteArray,y_ = (y192 ++ l0_0):=⟨_,rfl⟩
  replace H:((some (([]:List ByteArray):List ByteArray)).bind fun y198=>(if y198.length + l0_1.length < 8796093022208 then (some (y195,(y198 ++ l0_1))) else (none))) = some (r1,r2):=by first|(rw [hy195];with_reducible exact H)|(have H2_:=(Option.bind_some _ _).symm.trans H;rw [hy195];with_reducible exact H2_)|(have H2_:=(Option.bind_some _ _).symm.trans H;with_reducible exact H2_)|with_reducible exact H|(rw [hy195];exact H)|exact H
  have Ny195:=Aside0.mk hy195
  clear hy195
  obtain ⟨y198,hy198⟩:∃ y_:List ByteArray,y_ = (([]:List ByteArray)):=⟨_,rfl⟩
  replace H:(if y198.length + l0_1.length < 8796093022208 then (some (y195,(y198 ++ l0_1))) else (none)) = some (r1,r2):=by first|(rw [hy198];with_reducible exact H)|(have H2_:=(Option.bind_some _ _).symm.trans H;rw [hy198];with_reducible exact H2_)|(have H2_:=(Option.bind_some _ _).symm.trans H;with_reducible exact H2_)|with_reducible exact H|(rw [hy198];exact H)|exact H
  have Ny198:=Aside0.mk hy198
  clear hy198
  by_cases c3:y198.length + l0_1.length < 8796093022208
  ·rw [if_pos c3] at H
   have LMc3:=Aside0.mk c3
   clear c3
   obtain ⟨y201,hy201⟩:∃ y_:List ByteArray,y_ = (y198 ++ l0_1):=⟨_,rfl⟩
   replace H:(some (y195,y201)) = some (r1,r2):=by first|(rw [hy201];with_reducible exact H)|(have H2_:=(Option.bind_some _ _).symm.trans H;rw [hy201];with_reducible exact H2_)|(have H2_:=(Option.bind_some _ _).symm.trans H;with_reducible exact H2_)|with_reducible exact H|(rw [hy201];exact H)|exact H
   have Ny201:=Aside0.mk hy201
   clear hy201
   simp only [Option.some.injEq,Prod.mk.injEq] at H
   obtain ⟨rfl,rfl⟩:=H
   go_enter Try.func42,Try.ntmps42
   try go_wp2_with (first|((with_reducible refine gate_dst (N:=1) rfl ?_);refine box_event ?hg (N:=1) ?hd (cs:=#[.slice A0_0 l0_0.length c0_0,.slice A0_1 l0_1.length c0_1]) (t:=34) ?hr ?_;(case hd=>rfl);(case hg=>rfl);(case hr=>first|(go_simp;done)|(go_simp;rfl));intro gb190 hg w4 hbox hb;have n0_:=Aside0.mk (below_step (by repeat (first|(with_reducible first|exact HB.out|apply below_alloc|apply pw_below_drewN|apply below_drew1)|exact HB.out)) hb);have n1_:=Aside0.mk (hbox);have n2_:=Aside0.mk ((by rw [hg];exact (below_size (by repeat (first|(with_reducible first|exact HB.out|apply below_alloc|apply pw_below_drewN|apply below_drew1)|exact HB.out))):w.heap.size ≤ gb190));have n3_:=Aside0.mk ((by rw [hg];exact (below_size (by repeat (first|(with_reducible first|exact HB.out|apply below_alloc|apply pw_below_drewN|apply below_drew1)|exact HB.out))):w.heap.size ≤ gb190));clear HB;have HB:=n0_;have BK190:=n1_;have GW190:=n2_;have GE190:=n3_;clear n0_ n1_ n2_ n3_;clear hb hbox hg)|((with_reducible refine gate_dst (N:=2) rfl ?_);refine box_event ?hg (N:=2) ?hd (cs:=#[.slice none 0 0,.slice none 0 0]) (t:=34) ?hr ?_;(case hd=>rfl);(case hg=>rfl);(case hr=>first|(go_simp;done)|(go_simp;rfl));intro gb191 hg w5 hbox hb;have n0_:=Aside0.mk (blk_below (g:=gb190) (o:=.cells #[.slice A0_0 l0_0.length c0_0,.slice A0_1 l0_1.length c0_1] 34 (0,0)) (by (with_reducible repeat (first|refine blk_drewN ?_ _|refine blk_drew ?_|refine blk_alloc ?_ _));exact BK190.out) hb);have n1_:=Aside0.mk (below_step (by repeat (first|(with_reducible first|exact HB.out|apply below_alloc|apply pw_below_drewN|apply below_drew1|refine below_set ?_ GE190.out)|exact HB.out)) hb);have n2_:=Aside0.mk (hbox);have n3_:=Aside0.mk ((by rw [hg];exact (below_size (by repeat (first|(with_reducible first|exact HB.out|apply below_alloc|apply pw_below_drewN|apply below_drew1|refine below_set ?_ GE190.out)|exact HB.out))):w.heap.size ≤ gb191));have n4_:=Aside0.mk ((by rw [hg];exact (below_size (by repeat (first|(with_reducible first|exact HB.out|apply below_alloc|apply pw_below_drewN|apply below_drew1|refine below_set ?_ GE190.out)|exact HB.out))):w.heap.size ≤ gb191));have n5_:=Aside0.mk ((by rw [hg];exact Nat.ne_of_lt (blk_lt (g:=gb190) (o:=.cells #[.slice A0_0 l0_0.length c0_0,.slice A0_1 l0_1.length c0_1] 34 (0,0)) (by (with_reducible repeat (first|refine blk_drewN ?_ _|refine blk_drew ?_|refine blk_alloc ?_ _));exact BK190.out)):gb190 ≠ gb191));have n6_:=Aside0.mk ((by rw [hg];exact Nat.ne_of_gt (blk_lt (g:=gb190) (o:=.cells #[.slice A0_0 l0_0.length c0_0,.slice A0_1 l0_1.length c0_1] 34 (0,0)) (by (with_reducible repeat (first|refine blk_drewN ?_ _|refine blk_drew ?_|refine blk_alloc ?_ _));exact BK190.out)):gb191 ≠ gb190));clear BK190;clear HB;have BK190:=n0_;have HB:=n1_;have BK191:=n2_;have GW191:=n3_;have GE191:=n4_;have NB190_191:=n5_;have NB191_190:=n6_;clear n0_ n1_ n2_ n3_ n4_ n5_ n6_;clear hb hbox hg))
   have n0_:=Aside0.mk (blk_drew BK190.out)
   have n1_:=Aside0.mk (blk_drew BK191.out)
   have n2_:=Aside0.mk (below_drew1 HB.out)
   clear BK190
   clear BK191
   clear HB
   have BK190:=n0_
   have BK191:=n1_
   have HB:=n2_
   clear n0_ n1_ n2_
   refine start_ (n:=10) (S:=fun w'=>w'.cell? ⟨gb190,0,none⟩ = some (.slice A0_0 l0_0.length c0_0) ∧ w'.cell? ⟨gb190,1,none⟩ = some (.slice A0_1 l0_1.length c0_1)) (ds:=[]) #[false,false,false,false,false,false,false,false,false,false] (by kernel_rfl) rfl rfl ⟨(blk_cell BK190.out 0).trans rfl,(blk_cell BK190.out 1).trans rfl⟩ (fun hHeld=>?_);refine with_tabW spec_l13Own.tab1 spec_l13Own.bits1 (fun HT_ HW_=>?_)
   generalize w5.drew = w6 at BK190 BK191 HB hHeld ⊢
   refine pure_ (i:=1) (N:=some 4) (v:=?_) (a':=?_) #[false,true,false,false,false,false,false,false,false,false] rfl rfl (any_of HT_.out (by kernel_rfl)) (fun _ _ _ h=>h) (Or.inl ⟨by rfl,?_⟩) ?_ ?_
   rotate_left
   ·intro w'
    go_simp
    with_reducible rfl
   rotate_left
   ·simp only [Act.put,List.setIfInBounds_toArray,List.set_cons_zero,List.set_cons_succ,i64_w,i32_w]
    rfl
   refine pure_ (i:=5) (N:=some 8) (v:=?_) (a':=?_) #[false,true,false,false,false,true,false,false,false,false] rfl rfl (any_of HT_.out (by kernel_rfl)) (fun _ _ _ h=>h) (Or.inl ⟨by rfl,?_⟩) ?_ ?_
   rotate_left
   ·intro w'
    go_simp
    with_reducible rfl
   rotate_left
   ·simp only [Act.put,List.setIfInBounds_toArray,List.set_cons_zero,List.set_cons_succ,i64_w,i32_w]
    rfl
   refine take_ (i:=2) (N:=some 5) (v:=?_) (a':=?_) #[false,true,true,false,false,true,false,false,false,false] rfl rfl (take_ofW HT_.out HW_.out (by kernel_rfl)) (fun _ _ _ h=>h) (Or.inl ⟨by rfl,?_⟩) hHeld ?_ ?_
   rotate_left
   ·rintro w' ⟨s0,s1⟩
    go_simp
    with_reducible rfl
   rotate_left
   ·simp only [Act.put,List.setIfInBounds_toArray,List.set_cons_zero,List.set_cons_succ,i64_w,i32_w]
    rfl
   refine take_ (i:=6) (N:=some 9) (v:=?_) (a':=?_) #[false,true,true,false,false,true,true,false,false,false] rfl rfl (take_ofW HT_.out HW_.out (by kernel_rfl)) (fun _ _ _ h=>h) (Or.inl ⟨by rfl,?_⟩) hHeld ?_ ?_
   rotate_left
   ·rintro w' ⟨s0,s1⟩
    go_simp
    with_reducible rfl
   rotate_left
   ·simp only [Act.put,List.setIfInBounds_toArray,List.set_cons_zero,List.set_cons_succ,i64_w,i32_w]
    rfl
   refine join_ (σ:=Value × Value × Value) 3 #[true,true,true,true,true,true,true,false,false,false] (fun s_=>[(3,s_.1),(6,s_.2.1),(7,s_.2.2)]) (fun s_ w'=>(w'.cell? ⟨gb190,0,none⟩ = some (.slice A0_0 l0_0.length c0_0) ∧ w'.cell? ⟨gb190,1,none⟩ = some (.slice A0_1 l0_1.length c0_1)) ∧ (Kd.R Kd.string 9 w' w.heap.size (fun k_=>some k_ ≠ (s_.2.2:Value).ownBlock) s_.2.1 y195) ∧ (Kd.R Kd.string 9 w' w.heap.size (fun k_=>some k_ ≠ (s_.2.1:Value).ownBlock) s_.2.2 y198) ∧ (w'.heap[gb190]? = some (.cells #[.slice A0_0 l0_0.length c0_0,.slice A0_1 l0_1.length c0_1] 34 (0,0))) ∧ (w'.heap[gb191]? = some (.cells #[.slice none 0 0,.slice none 0 0] 34 (0,0))) ∧ (Below w.heap.size w w')) ?_ ?_
   rotate_left
   ·intro hCont
    refine two_ (i:=0) (j:=4) (Ni:=some 3) (Nj:=some 7) #[true,true,true,false,false,true,true,false,false,false] #[false,true,true,false,true,true,true,false,false,false] rfl rfl rfl rfl (two_of HT_.out (by kernel_rfl)) (by decide) (by decide) (fun K hK=>?_) (fun K hK=>?_)
    ·skip
     refine Kd.R_lit_step Kd.string _ 9 ?hg (N:=3) ?hd (xs:=([]:List ByteArray)) (inner:=[]) (ok:=fun _=>True) (okp:=fun _=>True) ?hr ?hp (fun _ hk=>hk) trivial (Below.refl _ _) (Nat.le_refl _) (by simp) ?_;(case hd=>rfl);(case hg=>rfl);(case hr=>first|(go_simp;done)|(go_simp;rfl));(case hp=>exact (Reps.none _ _))
     intro v193 w7 ho8 hb hg_ hnew_
     clear hg_ hnew_
     (first|rw [← Ny192.out] at ho8|(simp only [Int.reduceToNat] at ho8;rw [← Ny192.out] at ho8))
     have n0_:=Aside0.mk (Kd.R_lower ho8 (below_size (by repeat (first|(with_reducible first|exact HB.out|apply below_alloc|apply pw_below_drewN|apply below_drew1|refine below_set ?_ GE190.out|refine below_set ?_ GE191.out)|exact HB.out))))
     have n1_:=Aside0.mk (blk_below (g:=gb190) (o:=.cells #[.slice A0_0 l0_0.length c0_0,.slice A0_1 l0_1.length c0_1] 34 (0,0)) (by (with_reducible repeat (first|refine blk_drewN ?_ _|refine blk_drew ?_|refine blk_alloc ?_ _));exact BK190.out) hb)
     have n2_:=Aside0.mk (blk_below (g:=gb191) (o:=.cells #[.slice none 0 0,.slice none 0 0] 34 (0,0)) (by (with_reducible repeat (first|refine blk_drewN ?_ _|refine blk_drew ?_|refine blk_alloc ?_ _));exact BK191.out) hb)
     have n3_:=Aside0.mk (below_step (by repeat (first|(with_reducible first|exact HB.out|apply below_alloc|apply pw_below_drewN|apply below_drew1|refine below_set ?_ GE190.out|refine below_set ?_ GE191.out)|exact HB.out)) hb)
     clear BK190
     clear BK191
     clear HB
     have HO194:=n0_
     have BK190:=n1_
     have BK191:=n2_
     have HB:=n3_
     clear n0_ n1_ n2_ n3_
     clear hb ho8
     refine hK.out _ _ ⟨(blk_cell BK190.out 0).trans rfl,(blk_cell BK190.out 1).trans rfl⟩ (fun hHeld=>?_)
     clear hK K
     refine norm_ (a':=?_) ?_ ?_
     rotate_left
     ·show Act.put _ (some 3) _ = _
      simp only [Act.put,List.setIfInBounds_toArray,List.set_cons_zero,List.set_cons_succ,i64_w,i32_w]
      rfl
     refine two_ (i:=3) (j:=4) (Ni:=some 6) (Nj:=some 7) #[true,true,true,true,false,true,true,false,false,false] #[true,true,true,false,true,true,true,false,false,false] rfl rfl rfl rfl (two_of HT_.out (by kernel_rfl)) (by decide) (by decide) (fun K hK=>?_) (fun K hK=>?_)
     ·skip
      refine Kd.R_append_rows_step Kd.string (w0:=w) w.heap.size (by rfl) (.tmp 3) (.tmp 5) 28 9 (.string ⟨#[]⟩) 16 rfl Try.underlying28 info9 rfl (by decide) (by first|decide|omega) v193 y192 l0_0 _ _ _ (fun _=>True) (fun _=>False) rfl rfl ?aO ?aR (fun _ _ h=>h) (fun _ h=>h.elim) ?aF ?aB ?aS ?aL ?_
      (case aR=>repeat (first|exact (Kd.C_below HR0_0.out HB.out)|(with_reducible refine Kd.C_alloc ?_ _)|(with_reducible refine Kd.C_drewN ?_ _)|(with_reducible refine Kd.C_drew ?_)))
      (case aB=>exact (by repeat (first|(with_reducible first|exact HB.out|apply below_alloc|apply pw_below_drewN|apply below_drew1|refine below_set ?_ GE190.out|refine below_set ?_ GE191.out)|exact HB.out)))
      (case aF=>exact (fun _ _=>trivial))
      (case aO=>exact (by (with_reducible repeat (first|apply Kd.R_alloc|apply Kd.R_drewN|apply Kd.R_drew));exact HO194.out))
      (case aS=>exact (below_size (by repeat (first|(with_reducible first|exact HB.out|apply below_alloc|apply pw_below_drewN|apply below_drew1|refine below_set ?_ GE190.out|refine below_set ?_ GE191.out)|exact HB.out))))
      (case aL=>have:=LMc2.out;omega)
      intro v196 w9 ho hb hg hat
      rw [← Ny195.out] at ho
      have n0_:=Aside0.mk (blk_grown (g:=gb190) (o:=.cells #[.slice A0_0 l0_0.length c0_0,.slice A0_1 l0_1.length c0_1] 34 (0,0)) (by (with_reducible repeat (first|refine blk_drewN ?_ _|refine blk_drew ?_|refine blk_alloc ?_ _));exact BK190.out) hg (Kd.R_ne HO194.out BK190.out (by decide)))
      have n1_:=Aside0.mk (blk_grown (g:=gb191) (o:=.cells #[.slice none 0 0,.slice none 0 0] 34 (0,0)) (by (with_reducible repeat (first|refine blk_drewN ?_ _|refine blk_drew ?_|refine blk_alloc ?_ _));exact BK191.out) hg (Kd.R_ne HO194.out BK191.out (by decide)))
      have n2_:=Aside0.mk (hb)
      have n3_:=Aside0.mk (ho)
      clear BK190
      clear BK191
      clear HB
      clear HO194
      have BK190:=n0_
      have BK191:=n1_
      have HB:=n2_
      have HO197:=n3_
      clear n0_ n1_ n2_ n3_
      clear ho hb hg hat
      refine hK.out _ _ ⟨(blk_cell BK190.out 0).trans rfl,(blk_cell BK190.out 1).trans rfl⟩ (fun hHeld=>?_)
      clear hK K
      refine norm_ (a':=?_) ?_ ?_
      rotate_left
      ·show Act.put _ (some 6) _ = _
       simp only [Act.put,List.setIfInBounds_toArray,List.set_cons_zero,List.set_cons_succ,i64_w,i32_w]
       rfl
      refine one_ (i:=4) (N:=some 7) #[true,true,true,true,true,true,true,false,false,false] rfl rfl (one_of HT_.out (by kernel_rfl)) (by decide) (fun K hK=>?_)
      refine Kd.R_lit_step Kd.string _ 9 ?hg (N:=7) ?hd (xs:=([]:List ByteArray)) (inner:=[]) (ok:=fun _=>True) (okp:=fun _=>True) ?hr ?hp (fun _ hk=>hk) trivial (Below.refl _ _) (Nat.le_refl _) (by simp) ?_;(case hd=>rfl);(case hg=>rfl);(case hr=>first|(go_simp;done)|(go_simp;rfl));(case hp=>exact (Reps.none _ _))
      intro v199 w10 ho11 hb hg_ hnew_
      clear hg_ hnew_
      (first|rw [← Ny198.out] at ho11|(simp only [Int.reduceToNat] at ho11;rw [← Ny198.out] at ho11))
      have n0_:=Aside0.mk (Kd.R_elder' (by (with_reducible repeat (first|apply Kd.R_alloc|apply Kd.R_drewN|apply Kd.R_drew));exact HO197.out) (Kd.R_base ho11) hb)
      have n1_:=Aside0.mk (Kd.R_lower (Kd.R_new' ho11 (Kd.R_lt (by (with_reducible repeat (first|apply Kd.R_alloc|apply Kd.R_drewN|apply Kd.R_drew));exact HO197.out))) (below_size (by repeat (first|(with_reducible first|exact HB.out|apply below_alloc|apply pw_below_drewN|apply below_drew1|refine below_set ?_ GE190.out|refine below_set ?_ GE191.out)|exact HB.out))))
      have n2_:=Aside0.mk (blk_below (g:=gb190) (o:=.cells #[.slice A0_0 l0_0.length c0_0,.slice A0_1 l0_1.length c0_1] 34 (0,0)) (by (with_reducible repeat (first|refine blk_drewN ?_ _|refine blk_drew ?_|refine blk_alloc ?_ _));exact BK190.out) hb)
      have n3_:=Aside0.mk (blk_below (g:=gb191) (o:=.cells #[.slice none 0 0,.slice none 0 0] 34 (0,0)) (by (with_reducible repeat (first|refine blk_drewN ?_ _|refine blk_drew ?_|refine blk_alloc ?_ _));exact BK191.out) hb)
      have n4_:=Aside0.mk (below_step (by repeat (first|(with_reducible first|exact HB.out|apply below_alloc|apply pw_below_drewN|apply below_drew1|refine below_set ?_ GE190.out|refine below_set ?_ GE191.out)|exact HB.out)) hb)
      clear HO197
      clear BK190
      clear BK191
      clear HB
      have HO197:=n0_
      have HO200:=n1_
      have BK190:=n2_
      have BK191:=n3_
      have HB:=n4_
      clear n0_ n1_ n2_ n3_ n4_
      clear hb ho11
      refine hK.out _ _ ⟨(blk_cell BK190.out 0).trans rfl,(blk_cell BK190.out 1).trans rfl⟩ (fun hHeld=>?_)
      clear hK K
      refine norm_ (a':=?_) ?_ ?_
      rotate_left
      ·show Act.put _ (some 7) _ = _
       simp only [Act.put,List.setIfInBounds_toArray,List.set_cons_zero,List.set_cons_succ,i64_w,i32_w]
       rfl
      exact norm_ (by simp only [putAll,Act.put,List.setIfInBounds_toArray,List.set_cons_zero,List.set_cons_succ]) (hCont (v193,v196,v199) _ ⟨hHeld,(by (with_reducible repeat (first|apply Kd.R_alloc|apply Kd.R_drewN|apply Kd.R_drew));exact Kd.R_mono HO197.out (fun _ hk=>hk.2)),(by (with_reducible repeat (first|apply Kd.R_alloc|apply Kd.R_drewN|apply Kd.R_drew));exact Kd.R_mono HO200.out (fun _ hk=>hk.2)),(by (with_reducible repeat (first|refine blk_drewN ?_ _|refine blk_drew ?_|refine blk_alloc ?_ _));exact BK190.out),(by (with_reducible repeat (first|refine blk_drewN ?_ _|refine blk_drew ?_|refine blk_alloc ?_ _));exact BK191.out),(by repeat (first|(with_reducible first|exact HB.out|apply below_alloc|apply pw_below_drewN|apply below_drew1|refine below_set ?_ GE190.out|refine below_set ?_ GE191.out)|exact HB.out))⟩)
     ·skip
      refine Kd.R_lit_step Kd.string _ 9 ?hg (N:=7) ?hd (xs:=([]:List ByteArray)) (inner:=[]) (ok:=fun _=>True) (okp:=fun _=>True) ?hr ?hp (fun _ hk=>hk) trivial (Below.refl _ _) (Nat.le_refl _) (by simp) ?_;(case hd=>rfl);(case hg=>rfl);(case hr=>first|(go_simp;done)|(go_simp;rfl));(case hp=>exact (Reps.none _ _))
      intro v199 w9 ho10 hb hg_ hnew_
      clear hg_ hnew_
      (first|rw [← Ny198.out] at ho10|(simp only [Int.reduceToNat] at ho10;rw [← Ny198.out] at ho10))
      have n0_:=Aside0.mk (Kd.R_elder' (by (with_reducible repeat (first|apply Kd.R_alloc|apply Kd.R_drewN|apply Kd.R_drew));exact HO194.out) (Kd.R_base ho10) hb)
      have n1_:=Aside0.mk (Kd.R_lower (Kd.R_new' ho10 (Kd.R_lt (by (with_reducible repeat (first|apply Kd.R_alloc|apply Kd.R_drewN|apply Kd.R_drew));exact HO194.out))) (below_size (by repeat (first|(with_reducible first|exact HB.out|apply below_alloc|apply pw_below_drewN|apply below_drew1|refine below_set ?_ GE190.out|refine below_set ?_ GE191.out)|exact HB.out))))
      have n2_:=Aside0.mk (blk_below (g:=gb190) (o:=.cells #[.slice A0_0 l0_0.length c0_0,.slice A0_1 l0_1.length c0_1] 34 (0,0)) (by (with_reducible repeat (first|refine blk_drewN ?_ _|refine blk_drew ?_|refine blk_alloc ?_ _));exact BK190.out) hb)
      have n3_:=Aside0.mk (blk_below (g:=gb191) (o:=.cells #[.slice none 0 0,.slice none 0 0] 34 (0,0)) (by (with_reducible repeat (first|refine blk_drewN ?_ _|refine blk_drew ?_|refine blk_alloc ?_ _));exact BK191.out) hb)
      have n4_:=Aside0.mk (below_step (by repeat (first|(with_reducible first|exact HB.out|apply below_alloc|apply pw_below_drewN|apply below_drew1|refine below_set ?_ GE190.out|refine below_set ?_ GE191.out)|exact HB.out)) hb)
      clear HO194
      clear BK190
      clear BK191
      clear HB
      have HO194:=n0_
      have HO200:=n1_
      have BK190:=n2_
      have BK191:=n3_
      have HB:=n4_
      clear n0_ n1_ n2_ n3_ n4_
      clear hb ho10
      refine hK.out _ _ ⟨(blk_cell BK190.out 0).trans rfl,(blk_cell BK190.out 1).trans rfl⟩ (fun hHeld=>?_)
      clear hK K
      refine norm_ (a':=?_) ?_ ?_
      rotate_left
      ·show Act.put _ (some 7) _ = _
       simp only [Act.put,List.setIfInBounds_toArray,List.set_cons_zero,List.set_cons_succ,i64_w,i32_w]
       rfl
      refine one_ (i:=3) (N:=some 6) #[true,true,true,true,true,true,true,false,false,false] rfl rfl (one_of HT_.out (by kernel_rfl)) (by decide) (fun K hK=>?_)
      refine Kd.R_append_rows_step Kd.string (w0:=w) w.heap.size (by rfl) (.tmp 3) (.tmp 5) 28 9 (.string ⟨#[]⟩) 16 rfl Try.underlying28 info9 rfl (by decide) (by first|decide|omega) v193 y192 l0_0 _ _ _ (fun k_=>some k_ ≠ (v199:Value).ownBlock) (fun _=>False) rfl rfl ?aO ?aR (fun _ _ h=>h) (fun _ h=>h.elim) ?aF ?aB ?aS ?aL ?_
      (case aR=>repeat (first|exact (Kd.C_below HR0_0.out HB.out)|(with_reducible refine Kd.C_alloc ?_ _)|(with_reducible refine Kd.C_drewN ?_ _)|(with_reducible refine Kd.C_drew ?_)))
      (case aB=>exact (by repeat (first|(with_reducible first|exact HB.out|apply below_alloc|apply pw_below_drewN|apply below_drew1|refine below_set ?_ GE190.out|refine below_set ?_ GE191.out)|exact HB.out)))
      (case aF=>exact (fun k_ hk=>Kd.fresh' (Kd.R_lt (by (with_reducible repeat (first|apply Kd.R_alloc|apply Kd.R_drewN|apply Kd.R_drew));exact HO200.out)) k_ hk))
      (case aO=>exact (by (with_reducible repeat (first|apply Kd.R_alloc|apply Kd.R_drewN|apply Kd.R_drew));exact Kd.R_mono HO194.out (fun _ hk=>hk.2)))
      (case aS=>exact (below_size (by repeat (first|(with_reducible first|exact HB.out|apply below_alloc|apply pw_below_drewN|apply below_drew1|refine below_set ?_ GE190.out|refine below_set ?_ GE191.out)|exact HB.out))))
      (case aL=>have:=LMc2.out;omega)
      intro v196 w11 ho hb hg hat
      rw [← Ny195.out] at ho
      have n0_:=Aside0.mk (blk_grown (g:=gb190) (o:=.cells #[.slice A0_0 l0_0.length c0_0,.slice A0_1 l0_1.length c0_1] 34 (0,0)) (by (with_reducible repeat (first|refine blk_drewN ?_ _|refine blk_drew ?_|refine blk_alloc ?_ _));exact BK190.out) hg (Kd.R_ne HO194.out BK190.out (by decide)))
      have n1_:=Aside0.mk (blk_grown (g:=gb191) (o:=.cells #[.slice none 0 0,.slice none 0 0] 34 (0,0)) (by (with_reducible repeat (first|refine blk_drewN ?_ _|refine blk_drew ?_|refine blk_alloc ?_ _));exact BK191.out) hg (Kd.R_ne HO194.out BK191.out (by decide)))
      have n2_:=Aside0.mk (Kd.R_after (ok:=(fun _=>True)) (by (with_reducible repeat (first|apply Kd.R_alloc|apply Kd.R_drewN|apply Kd.R_drew));exact HO200.out) hg hat)
      have n3_:=Aside0.mk (hb)
      have n4_:=Aside0.mk (ho)
      clear BK190
      clear BK191
      clear HO200
      clear HB
      clear HO194
      have BK190:=n0_
      have BK191:=n1_
      have HO200:=n2_
      have HB:=n3_
      have HO197:=n4_
      clear n0_ n1_ n2_ n3_ n4_
      clear ho hb hg hat
      refine hK.out _ _ ⟨(blk_cell BK190.out 0).trans rfl,(blk_cell BK190.out 1).trans rfl⟩ (fun hHeld=>?_)
      clear hK K
      refine norm_ (a':=?_) ?_ ?_
      rotate_left
      ·show Act.put _ (some 6) _ = _
       simp only [Act.put,List.setIfInBounds_toArray,List.set_cons_zero,List.set_cons_succ,i64_w,i32_w]
       rfl
      exact norm_ (by simp only [putAll,Act.put,List.setIfInBounds_toArray,List.set_cons_zero,List.set_cons_succ]) (hCont (v193,v196,v199) _ ⟨hHeld,(by (with_reducible repeat (first|apply Kd.R_alloc|apply Kd.R_drewN|apply Kd.R_drew));exact HO197.out),(by (with_reducible repeat (first|apply Kd.R_alloc|apply Kd.R_drewN|apply Kd.R_drew));exact Kd.R_mono HO200.out (fun _ hk=>hk.2)),(by (with_reducible repeat (first|refine blk_drewN ?_ _|refine blk_drew ?_|refine blk_alloc ?_ _));exact BK190.out),(by (with_reducible repeat (first|refine blk_drewN ?_ _|refine blk_drew ?_|refine blk_alloc ?_ _));exact BK191.out),(by repeat (first|(with_reducible first|exact HB.out|apply below_alloc|apply pw_below_drewN|apply below_drew1|refine below_set ?_ GE190.out|refine below_set ?_ GE191.out)|exact HB.out))⟩)
    ·skip
     refine Kd.R_lit_step Kd.string _ 9 ?hg (N:=7) ?hd (xs:=([]:List ByteArray)) (inner:=[]) (ok:=fun _=>True) (okp:=fun _=>True) ?hr ?hp (fun _ hk=>hk) trivial (Below.refl _ _) (Nat.le_refl _) (by simp) ?_;(case hd=>rfl);(case hg=>rfl);(case hr=>first|(go_simp;done)|(go_simp;rfl));(case hp=>exact (Reps.none _ _))
     intro v199 w7 ho8 hb hg_ hnew_
     clear hg_ hnew_
     (first|rw [← Ny198.out] at ho8|(simp only [Int.reduceToNat] at ho8;rw [← Ny198.out] at ho8))
     have n0_:=Aside0.mk (Kd.R_lower ho8 (below_size (by repeat (first|(with_reducible first|exact HB.out|apply below_alloc|apply pw_below_drewN|apply below_drew1|refine below_set ?_ GE190.out|refine below_set ?_ GE191.out)|exact HB.out))))
     have n1_:=Aside0.mk (blk_below (g:=gb190) (o:=.cells #[.slice A0_0 l0_0.length c0_0,.slice A0_1 l0_1.length c0_1] 34 (0,0)) (by (with_reducible repeat (first|refine blk_drewN ?_ _|refine blk_drew ?_|refine blk_alloc ?_ _));exact BK190.out) hb)
     have n2_:=Aside0.mk (blk_below (g:=gb191) (o:=.cells #[.slice none 0 0,.slice none 0 0] 34 (0,0)) (by (with_reducible repeat (first|refine blk_drewN ?_ _|refine blk_drew ?_|refine blk_alloc ?_ _));exact BK191.out) hb)
     have n3_:=Aside0.mk (below_step (by repeat (first|(with_reducible first|exact HB.out|apply below_alloc|apply pw_below_drewN|apply below_drew1|refine below_set ?_ GE190.out|refine below_set ?_ GE191.out)|exact HB.out)) hb)
     clear BK190
     clear BK191
     clear HB
     have HO200:=n0_
     have BK190:=n1_
     have BK191:=n2_
     have HB:=n3_
     clear n0_ n1_ n2_ n3_
     clear hb ho8
     refine hK.out _ _ ⟨(blk_cell BK190.out 0).trans rfl,(blk_cell BK190.out 1).trans rfl⟩ (fun hHeld=>?_)
     clear hK K
     refine norm_ (a':=?_) ?_ ?_
     rotate_left
     ·show Act.put _ (some 7) _ = _
      simp only [Act.put,List.setIfInBounds_toArray,List.set_cons_zero,List.set_cons_succ,i64_w,i32_w]
      rfl
     refine one_ (i:=0) (N:=some 3) #[true,true,true,false,true,true,true,false,false,false] rfl rfl (one_of HT_.out (by kernel_rfl)) (by decide) (fun K hK=>?_)
     refine Kd.R_lit_step Kd.string _ 9 ?hg (N:=3) ?hd (xs:=([]:List ByteArray)) (inner:=[]) (ok:=fun _=>True) (okp:=fun _=>True) ?hr ?hp (fun _ hk=>hk) trivial (Below.refl _ _) (Nat.le_refl _) (by simp) ?_;(case hd=>rfl);(case hg=>rfl);(case hr=>first|(go_simp;done)|(go_simp;rfl));(case hp=>exact (Reps.none _ _))
     intro v193 w9 ho10 hb hg_ hnew_
     clear hg_ hnew_
     (first|rw [← Ny192.out] at ho10|(simp only [Int.reduceToNat] at ho10;rw [← Ny192.out] at ho10))
     have n0_:=Aside0.mk (Kd.R_elder' (by (with_reducible repeat (first|apply Kd.R_alloc|apply Kd.R_drewN|apply Kd.R_drew));exact HO200.out) (Kd.R_base ho10) hb)
     have n1_:=Aside0.mk (Kd.R_lower (Kd.R_new' ho10 (Kd.R_lt (by (with_reducible repeat (first|apply Kd.R_alloc|apply Kd.R_drewN|apply Kd.R_drew));exact HO200.out))) (below_size (by repeat (first|(with_reducible first|exact HB.out|apply below_alloc|apply pw_below_drewN|apply below_drew1|refine below_set ?_ GE190.out|refine below_set ?_ GE191.out)|exact HB.out))))
     have n2_:=Aside0.mk (blk_below (g:=gb190) (o:=.cells #[.slice A0_0 l0_0.length c0_0,.slice A0_1 l0_1.length c0_1] 34 (0,0)) (by (with_reducible repeat (first|refine blk_drewN ?_ _|refine blk_drew ?_|refine blk_alloc ?_ _));exact BK190.out) hb)
     have n3_:=Aside0.mk (blk_below (g:=gb191) (o:=.cells #[.slice none 0 0,.slice none 0 0] 34 (0,0)) (by (with_reducible repeat (first|refine blk_drewN ?_ _|refine blk_drew ?_|refine blk_alloc ?_ _));exact BK191.out) hb)
     have n4_:=Aside0.mk (below_step (by repeat (first|(with_reducible first|exact HB.out|apply below_alloc|apply pw_below_drewN|apply below_drew1|refine below_set ?_ GE190.out|refine below_set ?_ GE191.out)|exact HB.out)) hb)
     clear HO200
     clear BK190
     clear BK191
     clear HB
     have HO200:=n0_
     have HO194:=n1_
     have BK190:=n2_
     have BK191:=n3_
     have HB:=n4_
     clear n0_ n1_ n2_ n3_ n4_
     clear hb ho10
     refine hK.out _ _ ⟨(blk_cell BK190.out 0).trans rfl,(blk_cell BK190.out 1).trans rfl⟩ (fun hHeld=>?_)
     clear hK K
     refine norm_ (a':=?_) ?_ ?_
     rotate_left
     ·show Act.put _ (some 3) _ = _
      simp only [Act.put,List.setIfInBounds_toArray,List.set_cons_zero,List.set_cons_succ,i64_w,i32_w]
      rfl
     refine one_ (i:=3) (N:=some 6) #[true,true,true,true,true,true,true,false,false,false] rfl rfl (one_of HT_.out (by kernel_rfl)) (by decide) (fun K hK=>?_)
     refine Kd.R_append_rows_step Kd.string (w0:=w) w.heap.size (by rfl) (.tmp 3) (.tmp 5) 28 9 (.string ⟨#[]⟩) 16 rfl Try.underlying28 info9 rfl (by decide) (by first|decide|omega) v193 y192 l0_0 _ _ _ (fun k_=>some k_ ≠ (v199:Value).ownBlock) (fun _=>False) rfl rfl ?aO ?aR (fun _ _ h=>h) (fun _ h=>h.elim) ?aF ?aB ?aS ?aL ?_
     (case aR=>repeat (first|exact (Kd.C_below HR0_0.out HB.out)|(with_reducible refine Kd.C_alloc ?_ _)|(with_reducible refine Kd.C_drewN ?_ _)|(with_reducible refine Kd.C_drew ?_)))
     (case aB=>exact (by repeat (first|(with_reducible first|exact HB.out|apply below_alloc|apply pw_below_drewN|apply below_drew1|refine below_set ?_ GE190.out|refine below_set ?_ GE191.out)|exact HB.out)))
     (case aF=>exact (fun k_ hk=>Kd.fresh' (Kd.R_lt (by (with_reducible repeat (first|apply Kd.R_alloc|apply Kd.R_drewN|apply Kd.R_drew));exact HO200.out)) k_ hk))
     (case aO=>exact (by (with_reducible repeat (first|apply Kd.R_alloc|apply Kd.R_drewN|apply Kd.R_drew));exact Kd.R_mono HO194.out (fun _ hk=>hk.2)))
     (case aS=>exact (below_size (by repeat (first|(with_reducible first|exact HB.out|apply below_alloc|apply pw_below_drewN|apply below_drew1|refine below_set ?_ GE190.out|refine below_set ?_ GE191.out)|exact HB.out))))
     (case aL=>have:=LMc2.out;omega)
     intro v196 w11 ho hb hg hat
     rw [← Ny195.out] at ho
     have n0_:=Aside0.mk (blk_grown (g:=gb190) (o:=.cells #[.slice A0_0 l0_0.length c0_0,.slice A0_1 l0_1.length c0_1] 34 (0,0)) (by (with_reducible repeat (first|refine blk_drewN ?_ _|refine blk_drew ?_|refine blk_alloc ?_ _));exact BK190.out) hg (Kd.R_ne HO194.out BK190.out (by decide)))
     have n1_:=Aside0.mk (blk_grown (g:=gb191) (o:=.cells #[.slice none 0 0,.slice none 0 0] 34 (0,0)) (by (with_reducible repeat (first|refine blk_drewN ?_ _|refine blk_drew ?_|refine blk_alloc ?_ _));exact BK191.out) hg (Kd.R_ne HO194.out BK191.out (by decide)))
     have n2_:=Aside0.mk (Kd.R_after (ok:=(fun _=>True)) (by (with_reducible repeat (first|apply Kd.R_alloc|apply Kd.R_drewN|apply Kd.R_drew));exact HO200.out) hg hat)
     have n3_:=Aside0.mk (hb)
     have n4_:=Aside0.mk (ho)
     clear BK190
     clear BK191
     clear HO200
     clear HB
     clear HO194
     have BK190:=n0_
     have BK191:=n1_
     have HO200:=n2_
     have HB:=n3_
     have HO197:=n4_
     clear n0_ n1_ n2_ n3_ n4_
     clear ho hb hg hat
     refine hK.out _ _ ⟨(blk_cell BK190.out 0).trans rfl,(blk_cell BK190.out 1).trans rfl⟩ (fun hHeld=>?_)
     clear hK K
     refine norm_ (a':=?_) ?_ ?_
     rotate_left
     ·show Act.put _ (some 6) _ = _
      simp only [Act.put,List.setIfInBounds_toArray,List.set_cons_zero,List.set_cons_succ,i64_w,i32_w]
      rfl
     exact norm_ (by simp only [putAll,Act.put,List.setIfInBounds_toArray,List.set_cons_zero,List.set_cons_succ]) (hCont (v193,v196,v199) _ ⟨hHeld,(by (with_reducible repeat (first|apply Kd.R_alloc|apply Kd.R_drewN|apply Kd.R_drew));exact HO197.out),(by (with_reducible repeat (first|apply Kd.R_alloc|apply Kd.R_drewN|apply Kd.R_drew));exact Kd.R_mono HO200.out (fun _ hk=>hk.2)),(by (with_reducible repeat (first|refine blk_drewN ?_ _|refine blk_drew ?_|refine blk_alloc ?_ _));exact BK190.out),(by (with_reducible repeat (first|refine blk_drewN ?_ _|refine blk_drew ?_|refine blk_alloc ?_ _));exact BK191.out),(by repeat (first|(with_reducible first|exact HB.out|apply below_alloc|apply pw_below_drewN|apply below_drew1|refine below_set ?_ GE190.out|refine below_set ?_ GE191.out)|exact HB.out))⟩)
   rintro ⟨v193,v196,v199⟩ w12 ⟨hS_,h0_,h1_,h2_,h3_,h4_⟩
   have n0_:Aside0 (Kd.R Kd.string 9 w12 w.heap.size (fun k_=>some k_ ≠ (v199:Value).ownBlock) v196 y195):=⟨h0_⟩
   have n1_:Aside0 (Kd.R Kd.string 9 w12 w.heap.size (fun k_=>some k_ ≠ (v196:Value).ownBlock) v199 y198):=⟨h1_⟩
   have n2_:Aside0 (w12.heap[gb190]? = some (.cells #[.slice A0_0 l0_0.length c0_0,.slice A0_1 l0_1.length c0_1] 34 (0,0))):=⟨h2_⟩
   have n3_:Aside0 (w12.heap[gb191]? = some (.cells #[.slice none 0 0,.slice none 0 0] 34 (0,0))):=⟨h3_⟩
   have n4_:Aside0 (Below w.heap.size w w12):=⟨h4_⟩
   clear BK190
   clear BK191
   clear HB
   clear h0_ h1_ h2_ h3_ h4_
   have HO197:=n0_
   have HO200:=n1_
   have BK190:=n2_
   have BK191:=n3_
   have HB:=n4_
   clear n0_ n1_ n2_ n3_ n4_
   have hHeld:w12.cell? ⟨gb190,0,none⟩ = some (.slice A0_0 l0_0.length c0_0) ∧ w12.cell? ⟨gb190,1,none⟩ = some (.slice A0_1 l0_1.length c0_1):=hS_
   refine norm_ (a':=?_) ?_ ?_
   rotate_left
   ·simp only [putAll,Act.put,List.setIfInBounds_toArray,List.set_cons_zero,List.set_cons_succ]
    rfl
   refine one_ (i:=7) (N:=some 10) #[true,true,true,true,true,true,true,true,false,false] rfl rfl (one_of HT_.out (by kernel_rfl)) (by decide) (fun K hK=>?_)
   refine Kd.R_append_rows_step Kd.string (w0:=w) w.heap.size (by rfl) (.tmp 7) (.tmp 9) 28 9 (.string ⟨#[]⟩) 16 rfl Try.underlying28 info9 rfl (by decide) (by first|decide|omega) v199 y198 l0_1 _ _ _ (fun k_=>some k_ ≠ (v196:Value).ownBlock) (fun _=>False) rfl rfl ?aO ?aR (fun _ _ h=>h) (fun _ h=>h.elim) ?aF ?aB ?aS ?aL ?_
   (case aR=>repeat (first|exact (Kd.C_below HR0_1.out HB.out)|(with_reducible refine Kd.C_alloc ?_ _)|(with_reducible refine Kd.C_drewN ?_ _)|(with_reducible refine Kd.C_drew ?_)))
   (case aB=>exact (by repeat (first|(with_reducible first|exact HB.out|apply below_alloc|apply pw_below_drewN|apply below_drew1|refine below_set ?_ GE190.out|refine below_set ?_ GE191.out)|exact HB.out)))
   (case aF=>exact (fun k_ hk=>Kd.fresh' (Kd.R_lt (by (with_reducible repeat (first|apply Kd.R_alloc|apply Kd.R_drewN|apply Kd.R_drew));exact HO197.out)) k_ hk))
   (case aO=>exact (by (with_reducible repeat (first|apply Kd.R_alloc|apply Kd.R_drewN|apply Kd.R_drew));exact HO200.out))
   (case aS=>exact (below_size (by repeat (first|(with_reducible first|exact HB.out|apply below_alloc|apply pw_below_drewN|apply below_drew1|refine below_set ?_ GE190.out|refine below_set ?_ GE191.out)|exact HB.out))))
   (case aL=>have:=LMc3.out;omega)
   intro v202 w13 ho hb hg hat
   rw [← Ny201.out] at ho
   have n0_:=Aside0.mk (blk_grown (g:=gb190) (o:=.cells #[.slice A0_0 l0_0.length c0_0,.slice A0_1 l0_1.length c0_1] 34 (0,0)) (by (with_reducible repeat (first|refine blk_drewN ?_ _|refine blk_drew ?_|refine blk_alloc ?_ _));exact BK190.out) hg (Kd.R_ne HO200.out BK190.out (by decide)))
   have n1_:=Aside0.mk (blk_grown (g:=gb191) (o:=.cells #[.slice none 0 0,.slice none 0 0] 34 (0,0)) (by (with_reducible repeat (first|refine blk_drewN ?_ _|refine blk_drew ?_|refine blk_alloc ?_ _));exact BK191.out) hg (Kd.R_ne HO200.out BK191.out (by decide)))
   have n2_:=Aside0.mk (Kd.R_after (ok:=(fun _=>True)) (by (with_reducible repeat (first|apply Kd.R_alloc|apply Kd.R_drewN|apply Kd.R_drew));exact Kd.R_mono HO197.out (fun _ hk=>⟨trivial,hk⟩)) hg hat)
   have n3_:=Aside0.mk (hb)
   have n4_:=Aside0.mk (ho)
   clear BK190
   clear BK191
   clear HO197
   clear HB
   clear HO200
   have BK190:=n0_
   have BK191:=n1_
   have HO197:=n2_
   have HB:=n3_
   have HO203:=n4_
   clear n0_ n1_ n2_ n3_ n4_
   clear ho hb hg hat
   obtain ⟨Ao14,co14,eo14⟩:=Kd.R_slice HO203.out
   (first|subst eo14|(injection eo14 with f1_ f2_ f3_;have f4_:=f1_.symm;have f5_:=f3_.symm;clear f1_ f2_ f3_;subst f4_;subst f5_))
   obtain ⟨Ao15,co15,eo15⟩:=Kd.R_slice HO197.out
   (first|subst eo15|(injection eo15 with f1_ f2_ f3_;have f4_:=f1_.symm;have f5_:=f3_.symm;clear f1_ f2_ f3_;subst f4_;subst f5_))
   refine hK.out _ _ ⟨(blk_cell BK190.out 0).trans rfl,(blk_cell BK190.out 1).trans rfl⟩ (fun hHeld=>?_)
   clear hK K
   refine norm_ (a':=?_) ?_ ?_
   rotate_left
   ·show Act.put _ (some 10) _ = _
    simp only [Act.put,List.setIfInBounds_toArray,List.set_cons_zero,List.set_cons_succ,i64_w,i32_w]
    rfl
   refine pure_ (i:=8) (N:=some 11) (v:=?_) (a':=?_) #[true,true,true,true,true,true,true,true,true,false] rfl rfl (any_of HT_.out (by kernel_rfl)) (fun _ _ _ h=>h) (Or.inl ⟨by rfl,?_⟩) ?_ ?_
   rotate_left
   ·intro w'
    go_simp
    with_reducible rfl
   rotate_left
   ·simp only [Act.put,List.setIfInBounds_toArray,List.set_cons_zero,List.set_cons_succ,i64_w,i32_w]
    rfl
   refine one_ (i:=9) (N:=none) #[true,true,true,true,true,true,true,true,true,true] rfl rfl (one_of HT_.out (by kernel_rfl)) (by decide) (fun K hK=>?_)
   have hs16:w13.cell? ⟨gb191,0,none⟩ = some (.slice none 0 0):=(blk_cell BK191.out 0).trans rfl
   have hfs16:=blk_frozen BK191.out 0
   have hns16_0:=NB190_191.out
   have hms16_0:=NB191_190.out
   have hs17:w13.cell? ⟨gb191,1,none⟩ = some (.slice none 0 0):=(blk_cell BK191.out 1).trans rfl
   have hfs17:=blk_frozen BK191.out 1
   have hns17_0:=NB190_191.out
   have hms17_0:=NB191_190.out
   refine skip_ (w1:=?_) (by rfl) rfl ?_ ?_
   rotate_left
   ·go_simp
    rfl
   refine hK.out _ _ ⟨((cell_far (p:=⟨gb191,_,none⟩) NB190_191.out _).trans (((cell_far (p:=⟨gb191,_,none⟩) NB190_191.out _).trans (hHeld.1)))),((cell_far (p:=⟨gb191,_,none⟩) NB190_191.out _).trans (((cell_far (p:=⟨gb191,_,none⟩) NB190_191.out _).trans (hHeld.2))))⟩ (fun hHeld=>?_)
   clear hK K
   refine done_ (done_of HT_.out (by kernel_rfl)) ?_
   try go_wp2
   refine bodyPost_ret (results_cell_row rfl _ _ gb191 34 #[.slice Ao15 y195.length co15,.slice Ao14 y201.length co14] (0,0) _ rfl (by (with_reducible repeat (first|refine blk_drewN ?_ _|refine blk_drew ?_|refine blk_alloc ?_ _));refine blk_put (cs:=#[.slice Ao15 y195.length co15,.slice none 0 0]) ?_ 1 _ rfl;(with_reducible repeat (first|refine blk_drewN ?_ _|refine blk_drew ?_|refine blk_alloc ?_ _));refine blk_put (cs:=#[.slice none 0 0,.slice none 0 0]) ?_ 0 _ rfl;(with_reducible repeat (first|refine blk_drewN ?_ _|refine blk_drew ?_|refine blk_alloc ?_ _));exact BK191.out) Try.underlying34 rfl (by kernel_rfl)) rfl ?_
   exact ⟨_,_,by first|rfl|(simp [errW_none,errW_some] <;> rfl)|(simp [*,errW_none,errW_some] <;> rfl),by (with_reducible repeat (first|apply Kd.R_alloc|apply Kd.R_drewN|apply Kd.R_drew));exact Kd.R_mono (Kd.R_far (p:=⟨gb191,1,none⟩) (Kd.R_far (p:=⟨gb191,0,none⟩) (Kd.R_types HO197.out BK191.out (by decide)) (fun _ hk=>hk.2) (.slice Ao15 y195.length co15)) (fun _ hk=>hk.2) (.slice Ao14 y201.length co14)) (fun _ hk=>hk.1.2),by (with_reducible repeat (first|apply Kd.R_alloc|apply Kd.R_drewN|apply Kd.R_drew));exact Kd.R_mono (Kd.R_far (p:=⟨gb191,1,none⟩) (Kd.R_far (p:=⟨gb191,0,none⟩) (Kd.R_types HO203.out BK191.out (by decide)) (fun _ hk=>hk.2) (.slice Ao15 y195.length co15)) (fun _ hk=>hk.2) (.slice Ao14 y201.length co14)) (fun _ hk=>hk.1),by repeat (first|(with_reducible first|exact HB.out|apply below_alloc|apply pw_below_drewN|apply below_drew1|refine below_set ?_ GE190.out|refine below_set ?_ GE191.out)|exact HB.out)⟩
  ·rw [if_neg c3] at H
   exact absurd H (by simp)
 ·rw [if_neg c2] at H
  exact absurd H (by simp)

/-! ### spec_l13Put: function 43 -/
def spec_l13Put.l0:Nat → Int → ByteArray → List ByteArray → Option (List ByteArray)
 | 0,_,_,_=>none
 | k + 1,x0,x1,x5=>if (x1.size:Int) > 10 then (if 0 ≤ 10 then (if 10 ≤ (x1.size:Int) then ((spec_l13Sector.f k (wrap64 (x0 + (x5.length:Int))) false (x1.extract 0 10)).bind fun t204=>(if x5.length < 8796093022208 then (spec_l13Put.l0 k x0 (x1.extract 10 x1.size) (x5 ++ [t204])) else (none))) else (none)) else (none)) else ((spec_l13Sector.f k (wrap64 (x0 + (x5.length:Int))) true x1).bind fun t208=>(if x5.length < 8796093022208 then (some (x5 ++ [t208])) else (none)))
def spec_l13Put.f (k:Nat) (a0:Int) (a1:ByteArray):Option (List ByteArray):=spec_l13Put.l0 k a0 a1 ([]:List ByteArray)
theorem spec_l13Put.mono_l:∀ k,(∀ y0 y1 y2,LeO (spec_l13Put.l0 k y0 y1 y2) (spec_l13Put.l0 (k + 1) y0 y1 y2))
 | 0=>fun _ _ _ r h=>by simp [spec_l13Put.l0] at h
 | k + 1=>by
  have ih0:=spec_l13Put.mono_l k
  ·intro y0 y1 y2
   unfold spec_l13Put.l0
   repeat' first
   | (with_reducible exact ih0 _ _ _)
   | (with_reducible exact spec_l13Sector.mono _ _ _ _)
   | (with_reducible exact LeO.refl _)
   | (with_reducible exact LeO.none _)
   | (with_reducible refine LeO.ite ?_ ?_)
   | (with_reducible refine LeO.bind ?_ (fun _=>?_))
   | exact ih0 _ _ _
   | exact spec_l13Sector.mono _ _ _ _
   | exact LeO.none _
   | refine LeO.ite ?_ ?_
   | refine LeO.bind ?_ (fun _=>?_)
theorem spec_l13Put.mono:∀ a0 a1 k,LeO (spec_l13Put.f k a0 a1) (spec_l13Put.f (k + 1) a0 a1):=by
 intro a0 a1 k
 have ih0:=spec_l13Put.mono_l k
 unfold spec_l13Put.f
 repeat' first
   | (with_reducible exact ih0 _ _ _)
   | (with_reducible exact spec_l13Sector.mono _ _ _ _)
   | (with_reducible exact LeO.refl _)
   | (with_reducible exact LeO.none _)
   | (with_reducible refine LeO.ite ?_ ?_)
   | (with_reducible refine LeO.bind ?_ (fun _=>?_))
   | exact ih0 _ _ _
   | exact spec_l13Sector.mono _ _ _ _
   | exact LeO.none _
   | refine LeO.ite ?_ ?_
   | refine LeO.bind ?_ (fun _=>?_)
set_option maxHeartbeats 8000000 in
set_option maxRecDepth 100000 in
theorem spec_l13Put.calls (k:Nat) (a0:Int) (a1:ByteArray) (r:List ByteArray) (w:World) (h:spec_l13Put.f k a0 a1 = some r) :
  Calls Try.prog 43 #[.int .i64 a0,.string a1] w fun e w'=>∃ v0_:Value,e = .returned (v0_) ∧ Kd.R Kd.string 9 w' w.heap.size (fun _=>True) v0_ r ∧ Below w.heap.size w w':=by
 have HB:=Aside0.mk (Below.refl w.heap.size w)
 have H:(spec_l13Put.l0 k a0 a1 ([]:List ByteArray)) = some r:=h
 clear h
 have H':=Aside0.mk H
 clear H
 go_enter Try.func43,Try.ntmps43
 go_wp2
 go_loopg [1,5] k (fun kq v1 v5 w'=>∃ (x1_1:ByteArray) (x5_1:List ByteArray),v1 = .string x1_1 ∧ Aside0 (spec_l13Put.l0 kq a0 x1_1 x5_1 = some r) ∧ Aside0 (kq ≤ k) ∧ Aside0 (Kd.R Kd.string 9 w' w.heap.size (fun _=>True) v5 x5_1) ∧ Aside0 (Below w.heap.size w w'))
 case atStart=>exact ⟨(a1),(([]:List ByteArray)),(by first|rfl|(simp;done)|(simp [*];done)),H',⟨Nat.le_refl _⟩,⟨by first|exact Kd.R_nil _ _ _ _ _|exact Kd.N_nil _ _ _ _ _|exact Kd.V_nil _ _ _ _ _|exact Kd.Q_nil _ _ _ _ _|exact Kd.S_nil _ _ _ _ _⟩,⟨by repeat (first|(with_reducible first|exact HB.out|apply below_alloc|apply pw_below_drewN|apply below_drew1)|exact HB.out)⟩⟩
 case round =>
  clear H'
  try clear p2
  obtain ⟨x1_1,x5_1,rfl,HA,HK1,HO_5,HB⟩:=hrel
  cases gk with
  | zero=>exact absurd HA.out (by simp [spec_l13Put.l0])
  | succ k1 =>
   have H:=HA.out
   clear HA
   simp only [spec_l13Put.l0] at H
   by_cases c3:(x1_1.size:Int) > 10
   ·rw [if_pos c3] at H
    have c3b0:decide (10 < (x1_1.size:Int)) = true:=decide_eq_true c3
    have c3b1:decide (10 < x1_1.size) = true:=decide_eq_true (by omega)
    clear c3
    by_cases c4:0 ≤ 10
    ·rw [if_pos c4] at H
     have c4b0:=eq_true c4
     have c4b1:decide (0 ≤ 10) = true:=decide_eq_true c4
     clear c4
     by_cases c5:10 ≤ (x1_1.size:Int)
     ·rw [if_pos c5] at H
      have c5b0:=eq_true c5
      have c5b1:decide (10 ≤ (x1_1.size:Int)) = true:=decide_eq_true c5
      clear c5
      replace H:=Option.bind_eq_some_iff.mp H
      obtain ⟨t204,A60,H⟩:=H
      replace H:(if x5_1.length < 8796093022208 then (spec_l13Put.l0 k1 a0 (x1_1.extract 10 x1_1.size) (x5_1 ++ [t204])) else (none)) = some r:=H
      have A6:=Aside0.mk A60
      clear A60
      by_cases c7:x5_1.length < 8796093022208
      ·rw [if_pos c7] at H
       have LMc7:=Aside0.mk c7
       clear c7
       obtain ⟨y205,hy205⟩:∃ y_:List ByteArray,y_ = (x5_1 ++ [t204]):=⟨_,rfl⟩
       replace H:(spec_l13Put.l0 k1 a0 (x1_1.extract 10 x1_1.size) y205) = some r:=by first|(rw [hy205];with_reducible exact H)|(have H2_:=(Option.bind_some _ _).symm.trans H;rw [hy205];with_reducible exact H2_)|(have H2_:=(Option.bind_some _ _).symm.trans H;with_reducible exact H2_)|with_reducible exact H|(rw [hy205];exact H)|exact H
       have Ny205:=Aside0.mk hy205
       clear hy205
       have c8b0:=eq_true (of_decide_eq_true (by first|(with_reducible assumption)|assumption):10 ≤ (x1_1.size:Int))
       have H':=Aside0.mk H
       clear H
       obtain ⟨Ao9,co9,eo9⟩:=Kd.R_slice HO_5.out
       subst eo9
       go_wp2_with (first|((with_reducible refine gate_callee (f:=30) rfl ?_);refine goesL_ (some 16) rfl rfl Try.func30 (by kernel_rfl) rfl #[.int .i64 (wrap64 (a0 + (x5_1.length:Int))),.bool false,.string (x1_1.extract 0 10)] rfl (by (try simp only [List.map_toArray,List.map_cons,List.map_nil]);first|done|rfl|(simp only [List.length_drop,List.length_take];rfl)) ?_;(with_reducible refine (spec_l13Sector.calls k1 (wrap64 (a0 + (x5_1.length:Int))) false (x1_1.extract 0 10) t204 _ A6.out).mono ?_);rintro e w10 ⟨rfl,hb⟩;refine ⟨_,rfl,?_⟩;have n0_:=Aside0.mk (Kd.R_below (by (with_reducible repeat (first|apply Kd.R_alloc|apply Kd.R_drewN|apply Kd.R_drew));exact HO_5.out) hb);have n1_:=Aside0.mk (below_step (by repeat (first|(with_reducible first|exact HB.out|apply below_alloc|apply pw_below_drewN|apply below_drew1)|exact HB.out)) hb);clear HO_5;clear HB;have HO_5:=n0_;have HB:=n1_;clear n0_ n1_;(try clear hb);(try clear hb2);(try clear hk);(try clear hi))|((with_reducible refine gate_builtin (b:=.append) (xs:=#[.tmp 9,.tmp 17]) rfl ?_);at_builtin;refine Kd.R_append Kd.string (w0:=w) w.heap.size rfl (.tmp 9) (.tmp 17) 28 9 (.string ⟨#[]⟩) 16 rfl Try.underlying28 info9 rfl (by decide) (by first|decide|omega) (.slice Ao9 x5_1.length co9) x5_1 t204 [.string t204] (fun _=>True) (fun _=>False) rfl rfl ?aP (fun _ hk=>hk.elim) ?aF ?aO ?aB ?aS ?aL ?_;(case aP=>exact rfl);(case aB=>exact (by repeat (first|(with_reducible first|exact HB.out|apply below_alloc|apply pw_below_drewN|apply below_drew1)|exact HB.out)));(case aF=>exact (fun _ _=>trivial));(case aO=>exact (by (with_reducible repeat (first|apply Kd.R_alloc|apply Kd.R_drewN|apply Kd.R_drew));exact HO_5.out));(case aS=>exact (below_size (by repeat (first|(with_reducible first|exact HB.out|apply below_alloc|apply pw_below_drewN|apply below_drew1)|exact HB.out))));(case aL=>have:=LMc7.out;omega);intro v206 w11 ho hb hg hat;rw [← Ny205.out] at ho;have n0_:=Aside0.mk (hb);have n1_:=Aside0.mk (ho);clear HB;clear HO_5;have HB:=n0_;have HO207:=n1_;clear n0_ n1_;clear ho hb hg hat))
       go_roundg k1
       case measure=>have:=HK1.out;omega
       case rel=>exact ⟨(x1_1.extract 10 x1_1.size),(y205),(by first|rfl|(simp;done)|(simp [*];done)),H',⟨by have:=HK1.out;omega⟩,⟨by (with_reducible repeat (first|apply Kd.R_alloc|apply Kd.R_drewN|apply Kd.R_drew));exact HO207.out⟩,⟨by repeat (first|(with_reducible first|exact HB.out|apply below_alloc|apply pw_below_drewN|apply below_drew1)|exact HB.out)⟩⟩
      ·rw [if_neg c7] at H
       exact absurd H (by simp)
     ·rw [if_neg c5] at H
      exact absurd H (by simp)
    ·rw [if_neg c4] at H
     exact absurd H (by simp)
   ·rw [if_neg c3] at H
    have c3b0:decide (10 < (x1_1.size:Int)) = false:=decide_eq_false c3
    have c3b1:decide (10 < x1_1.size) = false:=decide_eq_false (by omega)
    clear c3
    replace H:=Option.bind_eq_some_iff.mp H
    obtain ⟨t208,A120,H⟩:=H
    replace H:(if x5_1.length < 8796093022208 then (some (x5_1 ++ [t208])) else (none)) = some r:=H
    have A12:=Aside0.mk A120
    clear A120
    by_cases c13:x5_1.length < 8796093022208
    ·rw [if_pos c13] at H
     have LMc13:=Aside0.mk c13
     clear c13
     obtain ⟨y209,hy209⟩:∃ y_:List ByteArray,y_ = (x5_1 ++ [t208]):=⟨_,rfl⟩
     replace H:(some y209) = some r:=by first|(rw [hy209];with_reducible exact H)|(have H2_:=(Option.bind_some _ _).symm.trans H;rw [hy209];with_reducible exact H2_)|(have H2_:=(Option.bind_some _ _).symm.trans H;with_reducible exact H2_)|with_reducible exact H|(rw [hy209];exact H)|exact H
     have Ny209:=Aside0.mk hy209
     clear hy209
     obtain rfl:=Option.some.inj H
     obtain ⟨Ao14,co14,eo14⟩:=Kd.R_slice HO_5.out
     subst eo14
     go_wp2_with (first|((with_reducible refine gate_callee (f:=30) rfl ?_);refine goesL_ (some 27) rfl rfl Try.func30 (by kernel_rfl) rfl #[.int .i64 (wrap64 (a0 + (x5_1.length:Int))),.bool true,.string x1_1] rfl (by (try simp only [List.map_toArray,List.map_cons,List.map_nil]);first|done|rfl|(simp only [List.length_drop,List.length_take];rfl)) ?_;(with_reducible refine (spec_l13Sector.calls k1 (wrap64 (a0 + (x5_1.length:Int))) true x1_1 t208 _ A12.out).mono ?_);rintro e w15 ⟨rfl,hb⟩;refine ⟨_,rfl,?_⟩;have n0_:=Aside0.mk (Kd.R_below (by (with_reducible repeat (first|apply Kd.R_alloc|apply Kd.R_drewN|apply Kd.R_drew));exact HO_5.out) hb);have n1_:=Aside0.mk (below_step (by repeat (first|(with_reducible first|exact HB.out|apply below_alloc|apply pw_below_drewN|apply below_drew1)|exact HB.out)) hb);clear HO_5;clear HB;have HO_5:=n0_;have HB:=n1_;clear n0_ n1_;(try clear hb);(try clear hb2);(try clear hk);(try clear hi))|((with_reducible refine gate_builtin (b:=.append) (xs:=#[.tmp 21,.tmp 28]) rfl ?_);at_builtin;refine Kd.R_append Kd.string (w0:=w) w.heap.size rfl (.tmp 21) (.tmp 28) 28 9 (.string ⟨#[]⟩) 16 rfl Try.underlying28 info9 rfl (by decide) (by first|decide|omega) (.slice Ao14 x5_1.length co14) x5_1 t208 [.string t208] (fun _=>True) (fun _=>False) rfl rfl ?aP (fun _ hk=>hk.elim) ?aF ?aO ?aB ?aS ?aL ?_;(case aP=>exact rfl);(case aB=>exact (by repeat (first|(with_reducible first|exact HB.out|apply below_alloc|apply pw_below_drewN|apply below_drew1)|exact HB.out)));(case aF=>exact (fun _ _=>trivial));(case aO=>exact (by (with_reducible repeat (first|apply Kd.R_alloc|apply Kd.R_drewN|apply Kd.R_drew));exact HO_5.out));(case aS=>exact (below_size (by repeat (first|(with_reducible first|exact HB.out|apply below_alloc|apply pw_below_drewN|apply below_drew1)|exact HB.out))));(case aL=>have:=LMc13.out;omega);intro v210 w16 ho hb hg hat;rw [← Ny209.out] at ho;have n0_:=Aside0.mk (hb);have n1_:=Aside0.mk (ho);clear HB;clear HO_5;have HB:=n0_;have HO211:=n1_;clear n0_ n1_;clear ho hb hg hat))
     go_ret
     exact ⟨_,by first|rfl|(simp [errW_none,errW_some] <;> rfl)|(simp [*,errW_none,errW_some] <;> rfl),by (with_reducible repeat (first|apply Kd.R_alloc|apply Kd.R_drewN|apply Kd.R_drew));exact HO211.out,by repeat (first|(with_reducible first|exact HB.out|apply below_alloc|apply pw_below_drewN|apply below_drew1)|exact HB.out)⟩
    ·rw [if_neg c13] at H
     exact absurd H (by simp)

end Go.Proofs.Ytamiedpgahpihaa.QFnExactPutText
