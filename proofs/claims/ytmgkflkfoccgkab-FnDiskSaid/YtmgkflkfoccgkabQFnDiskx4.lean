-- Written by this session's own program (wip/x/xprint.py, over the kit's printer); Lean checks it.
import Derived.Test.YtmgkflkfoccgkabQFnDiskx0
import Derived.Test.YtmgkflkfoccgkabQFnDiskx3
namespace Go.Proofs.Ytmgkflkfoccgkab.QFnDisk
open Go.RowKit Go.Proofs.YtmgkflkfoccgkabW.PrintWords Go.Proofs.YtmgkflkfoccgkabW.PrintLast Go.Proofs.YtmgkflkfoccgkabW.PrintMore
attribute [local go_sem] max2_int min2_int max_two min_two max_three min_three max_four min_four   -- for this text's walks alone
set_option linter.unusedVariables false
set_option linter.unusedSimpArgs false

/-! ### spec_l13Sector: function 89 -/
def spec_l13Sector.f (k:Nat) (a0:Int) (a1:Bool) (a2:ByteArray):Option (ByteArray):=if a1 = true then ((some (([(wrap64 (Int.tdiv a0 256)) % 256,(Int.tmod a0 256) % 256,(wrap64 ((a2.size:Int) + 128)) % 256]:List Int):List Int)).bind fun y145=>(if (strOfNums y145).size + a2.size ≤ 9223372036854775807 then (if 0 ≤ (wrap64 (10 - (a2.size:Int))) then (if (wrap64 (10 - (a2.size:Int)):Int).toNat ≤ 281474976710656 then ((some (List.replicate (wrap64 (10 - (a2.size:Int)):Int).toNat 0:List Int)).bind fun y148=>(if ((strOfNums y145) ++ a2).size + (strOfNums y148).size ≤ 9223372036854775807 then ((spec_l10Sum.f k (((strOfNums y145) ++ a2) ++ (strOfNums y148))).bind fun t151=>((some (([(wrap64 (Int.tdiv t151 256)) % 256,(Int.tmod t151 256) % 256,1]:List Int):List Int)).bind fun y152=>(if (((strOfNums y145) ++ a2) ++ (strOfNums y148)).size + (strOfNums y152).size ≤ 9223372036854775807 then (some ((((strOfNums y145) ++ a2) ++ (strOfNums y148)) ++ (strOfNums y152))) else (none)))) else (none))) else (none)) else (none)) else (none))) else ((some (([(wrap64 (Int.tdiv a0 256)) % 256,(Int.tmod a0 256) % 256,((a2.size:Int)) % 256]:List Int):List Int)).bind fun y155=>(if (strOfNums y155).size + a2.size ≤ 9223372036854775807 then (if 0 ≤ (wrap64 (10 - (a2.size:Int))) then (if (wrap64 (10 - (a2.size:Int)):Int).toNat ≤ 281474976710656 then ((some (List.replicate (wrap64 (10 - (a2.size:Int)):Int).toNat 0:List Int)).bind fun y158=>(if ((strOfNums y155) ++ a2).size + (strOfNums y158).size ≤ 9223372036854775807 then ((spec_l10Sum.f k (((strOfNums y155) ++ a2) ++ (strOfNums y158))).bind fun t161=>((some (([(wrap64 (Int.tdiv t161 256)) % 256,(Int.tmod t161 256) % 256,1]:List Int):List Int)).bind fun y162=>(if (((strOfNums y155) ++ a2) ++ (strOfNums y158)).size + (strOfNums y162).size ≤ 9223372036854775807 then (some ((((strOfNums y155) ++ a2) ++ (strOfNums y158)) ++ (strOfNums y162))) else (none)))) else (none))) else (none)) else (none)) else (none)))
theorem spec_l13Sector.mono:∀ a0 a1 a2 k,LeO (spec_l13Sector.f k a0 a1 a2) (spec_l13Sector.f (k + 1) a0 a1 a2):=by
 intro a0 a1 a2 k
 unfold spec_l13Sector.f
 have m0:=@spec_l10Sum.mono
 exact mO
def spec_l13Sector.T4:Bool × List (List Nat × List Nat):=(true,[([],[]),([0],[0]),([1],[1]),([],[]),([3],[3]),([4],[4]),([],[]),([6],[6]),([2,5,7],[2,5,7]),([8],[8]),([],[]),([9,10],[9,10]),([],[]),([12],[12]),([13],[13]),([14,14],[14]),([15],[15]),([11,16],[11,16]),([17,0,1,2,3,4,5,6,7,8,9,10,11,12,13,14,15,16,17],[17])])
def spec_l13Sector.B4:List Nat:=[0,1,3,0,8,24,0,64,255,511,0,2047,0,4096,12288,28672,61440,131071,262143]
theorem spec_l13Sector.tab4:rtab .any (opsOf Try.f89 4) = spec_l13Sector.T4:=by kernel_rfl
theorem spec_l13Sector.bits4:waitsOk spec_l13Sector.T4.2 spec_l13Sector.B4 = true:=by kernel_rfl
set_option maxHeartbeats 8000000 in
set_option maxRecDepth 100000 in
theorem spec_l13Sector.calls (k:Nat) (a0:Int) (a1:Bool) (a2:ByteArray) (r:ByteArray) (w:World) (h:spec_l13Sector.f k a0 a1 a2 = some r) :
  Calls Try.prog 89 #[.int .i64 a0,.bool a1,.string a2] w fun e w'=>e = .returned (.string r) ∧ Below w.heap.size w w':=by
 have HB:=Aside0.mk (Below.refl w.heap.size w)
 have H:(if a1 = true then ((some (([(wrap64 (Int.tdiv a0 256)) % 256,(Int.tmod a0 256) % 256,(wrap64 ((a2.size:Int) + 128)) % 256]:List Int):List Int)).bind fun y145=>(if (strOfNums y145).size + a2.size ≤ 9223372036854775807 then (if 0 ≤ (wrap64 (10 - (a2.size:Int))) then (if (wrap64 (10 - (a2.size:Int)):Int).toNat ≤ 281474976710656 then ((some (List.replicate (wrap64 (10 - (a2.size:Int)):Int).toNat 0:List Int)).bind fun y148=>(if ((strOfNums y145) ++ a2).size + (strOfNums y148).size ≤ 9223372036854775807 then ((spec_l10Sum.f k (((strOfNums y145) ++ a2) ++ (strOfNums y148))).bind fun t151=>((some (([(wrap64 (Int.tdiv t151 256)) % 256,(Int.tmod t151 256) % 256,1]:List Int):List Int)).bind fun y152=>(if (((strOfNums y145) ++ a2) ++ (strOfNums y148)).size + (strOfNums y152).size ≤ 9223372036854775807 then (some ((((strOfNums y145) ++ a2) ++ (strOfNums y148)) ++ (strOfNums y152))) else (none)))) else (none))) else (none)) else (none)) else (none))) else ((some (([(wrap64 (Int.tdiv a0 256)) % 256,(Int.tmod a0 256) % 256,((a2.size:Int)) % 256]:List Int):List Int)).bind fun y155=>(if (strOfNums y155).size + a2.size ≤ 9223372036854775807 then (if 0 ≤ (wrap64 (10 - (a2.size:Int))) then (if (wrap64 (10 - (a2.size:Int)):Int).toNat ≤ 281474976710656 then ((some (List.replicate (wrap64 (10 - (a2.size:Int)):Int).toNat 0:List Int)).bind fun y158=>(if ((strOfNums y155) ++ a2).size + (strOfNums y158).size ≤ 9223372036854775807 then ((spec_l10Sum.f k (((strOfNums y155) ++ a2) ++ (strOfNums y158))).bind fun t161=>((some (([(wrap64 (Int.tdiv t161 256)) % 256,(Int.tmod t161 256) % 256,1]:List Int):List Int)).bind fun y162=>(if (((strOfNums y155) ++ a2) ++ (strOfNums y158)).size + (strOfNums y162).size ≤ 9223372036854775807 then (some ((((strOfNums y155) ++ a2) ++ (strOfNums y158)) ++ (strOfNums y162))) else (none)))) else (none))) else (none)) else (none)) else (none)))) = some r:=h
 clear h
 by_cases c4:a1 = true
 ·subst c4
  have H1:((some (([(wrap64 (Int.tdiv a0 256)) % 256,(Int.tmod a0 256) % 256,(wrap64 ((a2.size:Int) + 128)) % 256]:List Int):List Int)).bind fun y145=>(if (strOfNums y145).size + a2.size ≤ 9223372036854775807 then (if 0 ≤ (wrap64 (10 - (a2.size:Int))) then (if (wrap64 (10 - (a2.size:Int)):Int).toNat ≤ 281474976710656 then ((some (List.replicate (wrap64 (10 - (a2.size:Int)):Int).toNat 0:List Int)).bind fun y148=>(if ((strOfNums y145) ++ a2).size + (strOfNums y148).size ≤ 9223372036854775807 then ((spec_l10Sum.f k (((strOfNums y145) ++ a2) ++ (strOfNums y148))).bind fun t151=>((some (([(wrap64 (Int.tdiv t151 256)) % 256,(Int.tmod t151 256) % 256,1]:List Int):List Int)).bind fun y152=>(if (((strOfNums y145) ++ a2) ++ (strOfNums y148)).size + (strOfNums y152).size ≤ 9223372036854775807 then (some ((((strOfNums y145) ++ a2) ++ (strOfNums y148)) ++ (strOfNums y152))) else (none)))) else (none))) else (none)) else (none)) else (none))) = some r:=by rw [if_pos rfl] at H;exact H
  clear H
  have H:=H1
  clear H1
  obtain ⟨y145,hy145⟩:∃ y_:List Int,y_ = (([(wrap64 (Int.tdiv a0 256)) % 256,(Int.tmod a0 256) % 256,(wrap64 ((a2.size:Int) + 128)) % 256]:List Int)):=⟨_,rfl⟩
  replace H:(if (strOfNums y145).size + a2.size ≤ 9223372036854775807 then (if 0 ≤ (wrap64 (10 - (a2.size:Int))) then (if (wrap64 (10 - (a2.size:Int)):Int).toNat ≤ 281474976710656 then ((some (List.replicate (wrap64 (10 - (a2.size:Int)):Int).toNat 0:List Int)).bind fun y148=>(if ((strOfNums y145) ++ a2).size + (strOfNums y148).size ≤ 9223372036854775807 then ((spec_l10Sum.f k (((strOfNums y145) ++ a2) ++ (strOfNums y148))).bind fun t151=>((some (([(wrap64 (Int.tdiv t151 256)) % 256,(Int.tmod t151 256) % 256,1]:List Int):List Int)).bind fun y152=>(if (((strOfNums y145) ++ a2) ++ (strOfNums y148)).size + (strOfNums y152).size ≤ 9223372036854775807 then (some ((((strOfNums y145) ++ a2) ++ (strOfNums y148)) ++ (strOfNums y152))) else (none)))) else (none))) else (none)) else (none)) else (none)) = some r:=by first|(rw [hy145];with_reducible exact H)|(have H2_:=(Option.bind_some _ _).symm.trans H;rw [hy145];with_reducible exact H2_)|(have H2_:=(Option.bind_some _ _).symm.trans H;with_reducible exact H2_)|with_reducible exact H|(rw [hy145];exact H)|exact H
  have Ny145:=Aside0.mk hy145
  clear hy145
  by_cases c5:(strOfNums y145).size + a2.size ≤ 9223372036854775807
  ·rw [if_pos c5] at H
   have c5b0:=eq_true c5
   have c5b1:=decide_eq_true c5
   try have c5b2:(9223372036854775807 < (strOfNums y145).size + a2.size) = False:=eq_false (Nat.not_lt.2 c5)
   obtain ⟨ji6,hji6⟩:∃ j_:Int,(wrap64 (10 - (a2.size:Int))) = j_:=⟨_,rfl⟩
   replace H:(if 0 ≤ (ji6) then (if (ji6:Int).toNat ≤ 281474976710656 then ((some (List.replicate (ji6:Int).toNat 0:List Int)).bind fun y148=>(if ((strOfNums y145) ++ a2).size + (strOfNums y148).size ≤ 9223372036854775807 then ((spec_l10Sum.f k (((strOfNums y145) ++ a2) ++ (strOfNums y148))).bind fun t151=>((some (([(wrap64 (Int.tdiv t151 256)) % 256,(Int.tmod t151 256) % 256,1]:List Int):List Int)).bind fun y152=>(if (((strOfNums y145) ++ a2) ++ (strOfNums y148)).size + (strOfNums y152).size ≤ 9223372036854775807 then (some ((((strOfNums y145) ++ a2) ++ (strOfNums y148)) ++ (strOfNums y152))) else (none)))) else (none))) else (none)) else (none)) = some r:=by first|(rw [hji6] at H;exact H)|(simp only [hji6] at H ⊢;exact H)
   have hji6w:(IntKind.i64.wrap (10 - (a2.size:Int))) = ji6:=(i64_w _).trans hji6
   by_cases c7:0 ≤ (ji6)
   ·rw [if_pos c7] at H
    have c7b0:=eq_true c7
    have c7b1:=decide_eq_true c7
    clear c7
    by_cases c8:(ji6:Int).toNat ≤ 281474976710656
    ·rw [if_pos c8] at H
     have c8b0:=eq_true c8
     have c8b1:=decide_eq_true c8
     clear c8
     obtain ⟨y148,hy148⟩:∃ y_:List Int,y_ = (List.replicate (ji6:Int).toNat 0):=⟨_,rfl⟩
     replace H:(if ((strOfNums y145) ++ a2).size + (strOfNums y148).size ≤ 9223372036854775807 then ((spec_l10Sum.f k (((strOfNums y145) ++ a2) ++ (strOfNums y148))).bind fun t151=>((some (([(wrap64 (Int.tdiv t151 256)) % 256,(Int.tmod t151 256) % 256,1]:List Int):List Int)).bind fun y152=>(if (((strOfNums y145) ++ a2) ++ (strOfNums y148)).size + (strOfNums y152).size ≤ 9223372036854775807 then (some ((((strOfNums y145) ++ a2) ++ (strOfNums y148)) ++ (strOfNums y152))) else (none)))) else (none)) = some r:=by first|(rw [hy148];with_reducible exact H)|(have H2_:=(Option.bind_some _ _).symm.trans H;rw [hy148];with_reducible exact H2_)|(have H2_:=(Option.bind_some _ _).symm.trans H;with_reducible exact H2_)|with_reducible exact H|(rw [hy148];exact H)|exact H
     have Ny148:=Aside0.mk hy148
     clear hy148
     by_cases c9:((strOfNums y145) ++ a2).size + (strOfNums y148).size ≤ 9223372036854775807
     ·rw [if_pos c9] at H
      have c9b0:=eq_true c9
      have c9b1:=decide_eq_true c9
      try have c9b2:(9223372036854775807 < ((strOfNums y145) ++ a2).size + (strOfNums y148).size) = False:=eq_false (Nat.not_lt.2 c9)
      try (have c9b3:=c9b2;simp only [ByteArray.size_append] at c9b3)
      replace H:=Option.bind_eq_some_iff.mp H
      obtain ⟨t151,A100,H⟩:=H
      replace H:((some (([(wrap64 (Int.tdiv t151 256)) % 256,(Int.tmod t151 256) % 256,1]:List Int):List Int)).bind fun y152=>(if (((strOfNums y145) ++ a2) ++ (strOfNums y148)).size + (strOfNums y152).size ≤ 9223372036854775807 then (some ((((strOfNums y145) ++ a2) ++ (strOfNums y148)) ++ (strOfNums y152))) else (none))) = some r:=H
      have A10:=Aside0.mk A100
      clear A100
      obtain ⟨y152,hy152⟩:∃ y_:List Int,y_ = (([(wrap64 (Int.tdiv t151 256)) % 256,(Int.tmod t151 256) % 256,1]:List Int)):=⟨_,rfl⟩
      replace H:(if (((strOfNums y145) ++ a2) ++ (strOfNums y148)).size + (strOfNums y152).size ≤ 9223372036854775807 then (some ((((strOfNums y145) ++ a2) ++ (strOfNums y148)) ++ (strOfNums y152))) else (none)) = some r:=by first|(rw [hy152];with_reducible exact H)|(have H2_:=(Option.bind_some _ _).symm.trans H;rw [hy152];with_reducible exact H2_)|(have H2_:=(Option.bind_some _ _).symm.trans H;with_reducible exact H2_)|with_reducible exact H|(rw [hy152];exact H)|exact H
      have Ny152:=Aside0.mk hy152
      clear hy152
      by_cases c11:(((strOfNums y145) ++ a2) ++ (strOfNums y148)).size + (strOfNums y152).size ≤ 9223372036854775807
      ·rw [if_pos c11] at H
       have c11b0:=eq_true c11
       have c11b1:=decide_eq_true c11
       try have c11b2:(9223372036854775807 < (((strOfNums y145) ++ a2) ++ (strOfNums y148)).size + (strOfNums y152).size) = False:=eq_false (Nat.not_lt.2 c11)
       try (have c11b3:=c11b2;simp only [ByteArray.size_append] at c11b3)
       obtain rfl:=Option.some.inj H
       go_enter Try.func89,Try.ntmps89
       try go_wp2
       replace HB:=Aside0.mk (below_drew1 HB.out)
       refine start_ (n:=19) (S:=fun w'=>True) (ds:=[]) #[false,false,false,false,false,false,false,false,false,false,false,false,false,false,false,false,false,false,false] (by kernel_rfl) rfl rfl trivial (fun hHeld=>?_);refine with_tabW spec_l13Sector.tab4 spec_l13Sector.bits4 (fun HT_ HW_=>?_)
       generalize w.drew = w12 at HB hHeld ⊢
       refine pU (i:=0) (N:=some 15) #[true,false,false,false,false,false,false,false,false,false,false,false,false,false,false,false,false,false,false] (any_of HT_.out (by kernel_rfl)) ?_
       refine pU (i:=1) (N:=some 16) #[true,true,false,false,false,false,false,false,false,false,false,false,false,false,false,false,false,false,false] (any_of HT_.out (by kernel_rfl)) ?_
       refine pU (i:=2) (N:=some 17) #[true,true,true,false,false,false,false,false,false,false,false,false,false,false,false,false,false,false,false] (any_of HT_.out (by kernel_rfl)) ?_
       refine pU (i:=3) (N:=some 18) #[true,true,true,true,false,false,false,false,false,false,false,false,false,false,false,false,false,false,false] (any_of HT_.out (by kernel_rfl)) ?_
       refine pU (i:=4) (N:=some 19) #[true,true,true,true,true,false,false,false,false,false,false,false,false,false,false,false,false,false,false] (any_of HT_.out (by kernel_rfl)) ?_
       refine pU (i:=5) (N:=some 20) #[true,true,true,true,true,true,false,false,false,false,false,false,false,false,false,false,false,false,false] (any_of HT_.out (by kernel_rfl)) ?_
       refine pU (i:=6) (N:=some 21) #[true,true,true,true,true,true,true,false,false,false,false,false,false,false,false,false,false,false,false] (any_of HT_.out (by kernel_rfl)) ?_
       refine pU (i:=7) (N:=some 22) #[true,true,true,true,true,true,true,true,false,false,false,false,false,false,false,false,false,false,false] (any_of HT_.out (by kernel_rfl)) ?_
       refine pU (i:=10) (N:=some 25) #[true,true,true,true,true,true,true,true,false,false,true,false,false,false,false,false,false,false,false] (any_of HT_.out (by kernel_rfl)) ?_
       refine pU (i:=12) (N:=some 27) #[true,true,true,true,true,true,true,true,false,false,true,false,true,false,false,false,false,false,false] (any_of HT_.out (by kernel_rfl)) ?_
       refine pU (i:=13) (N:=some 28) #[true,true,true,true,true,true,true,true,false,false,true,false,true,true,false,false,false,false,false] (any_of HT_.out (by kernel_rfl)) ?_
       refine pU (i:=14) (N:=some 29) #[true,true,true,true,true,true,true,true,false,false,true,false,true,true,true,false,false,false,false] (any_of HT_.out (by kernel_rfl)) ?_
       refine join_ (σ:=Value × Value) 2 #[true,true,true,true,true,true,true,true,true,true,true,true,true,true,true,true,true,false,false] (fun s_=>[(23,s_.1),(24,.string (strOfNums y145)),(30,s_.2),(31,.string (strOfNums y148)),(26,.string ((strOfNums y145) ++ a2))]) (fun s_ w'=>(Kd.R (Kd.int .u8) 5 w' w.heap.size (fun k_=>some k_ ≠ (s_.2:Value).ownBlock) s_.1 y145) ∧ (Kd.R (Kd.int .u8) 5 w' w.heap.size (fun k_=>some k_ ≠ (s_.1:Value).ownBlock) s_.2 y148) ∧ (Below w.heap.size w w')) ?_ ?_
       rotate_left
       ·intro hJ8_9_15_16
        refine join_ (σ:=Value × Value) 3 #[true,true,true,true,true,true,true,true,true,true,true,true,true,true,true,true,false,false,false] (fun s_=>[(23,s_.1),(24,.string (strOfNums y145)),(30,s_.2),(26,.string ((strOfNums y145) ++ a2))]) (fun s_ w'=>(Kd.R (Kd.int .u8) 5 w' w.heap.size (fun k_=>some k_ ≠ (s_.2:Value).ownBlock) s_.1 y145) ∧ (Kd.R (Kd.int .u8) 5 w' w.heap.size (fun k_=>some k_ ≠ (s_.1:Value).ownBlock) s_.2 y148) ∧ (Below w.heap.size w w')) ?_ ?_
        rotate_left
        ·intro hJ8_9_15
         refine join_ (σ:=Value × Value) 4 #[true,true,true,true,true,true,true,true,true,false,true,false,true,true,true,true,true,false,false] (fun s_=>[(23,s_.1),(30,s_.2),(31,.string (strOfNums y148))]) (fun s_ w'=>(Kd.R (Kd.int .u8) 5 w' w.heap.size (fun k_=>some k_ ≠ (s_.2:Value).ownBlock) s_.1 y145) ∧ (Kd.R (Kd.int .u8) 5 w' w.heap.size (fun k_=>some k_ ≠ (s_.1:Value).ownBlock) s_.2 y148) ∧ (Below w.heap.size w w')) ?_ ?_
         rotate_left
         ·intro hJ8_15_16
          refine join_ (σ:=Value) 4 #[true,true,true,true,true,true,true,true,true,true,true,true,true,true,true,false,false,false,false] (fun s_=>[(23,s_),(24,.string (strOfNums y145)),(26,.string ((strOfNums y145) ++ a2))]) (fun s_ w'=>(Kd.R (Kd.int .u8) 5 w' w.heap.size (fun _=>True) s_ y145) ∧ (Below w.heap.size w w')) ?_ ?_
          rotate_left
          ·intro hJ8_9
           refine join_ (σ:=Value × Value) 5 #[true,true,true,true,true,true,true,true,true,false,true,false,true,true,true,true,false,false,false] (fun s_=>[(23,s_.1),(30,s_.2)]) (fun s_ w'=>(Kd.R (Kd.int .u8) 5 w' w.heap.size (fun k_=>some k_ ≠ (s_.2:Value).ownBlock) s_.1 y145) ∧ (Kd.R (Kd.int .u8) 5 w' w.heap.size (fun k_=>some k_ ≠ (s_.1:Value).ownBlock) s_.2 y148) ∧ (Below w.heap.size w w')) ?_ ?_
           rotate_left
           ·intro hJ8_15
            refine join_ (σ:=Value) 5 #[true,true,true,true,true,true,true,true,false,false,true,false,true,true,true,true,true,false,false] (fun s_=>[(30,s_),(31,.string (strOfNums y148))]) (fun s_ w'=>(Kd.R (Kd.int .u8) 5 w' w.heap.size (fun _=>True) s_ y148) ∧ (Below w.heap.size w w')) ?_ ?_
            rotate_left
            ·intro hJ15_16
             refine join_ (σ:=Value) 6 #[true,true,true,true,true,true,true,true,true,false,true,false,true,true,true,false,false,false,false] (fun s_=>[(23,s_)]) (fun s_ w'=>(Kd.R (Kd.int .u8) 5 w' w.heap.size (fun _=>True) s_ y145) ∧ (Below w.heap.size w w')) ?_ ?_
             rotate_left
             ·intro hJ8
              refine join_ (σ:=Value) 6 #[true,true,true,true,true,true,true,true,false,false,true,false,true,true,true,true,false,false,false] (fun s_=>[(30,s_)]) (fun s_ w'=>(Kd.R (Kd.int .u8) 5 w' w.heap.size (fun _=>True) s_ y148) ∧ (Below w.heap.size w w')) ?_ ?_
              rotate_left
              ·intro hJ15
               refine two_ (i:=8) (j:=15) (Ni:=some 23) (Nj:=some 30) #[true,true,true,true,true,true,true,true,true,false,true,false,true,true,true,false,false,false,false] #[true,true,true,true,true,true,true,true,false,false,true,false,true,true,true,true,false,false,false] rfl rfl rfl rfl (two_of HT_.out (by kernel_rfl)) (by decide) (by decide) (fun K hK=>?_) (fun K hK=>?_)
               ·skip
                refine Kd.R_lit_step (Kd.int .u8) _ 5 ?hg (N:=23) ?hd (xs:=([(wrap64 (Int.tdiv a0 256)) % 256,(Int.tmod a0 256) % 256,(wrap64 ((a2.size:Int) + 128)) % 256]:List Int)) (inner:=[.int .u8 ((wrap64 (Int.tdiv a0 256)) % 256),.int .u8 ((Int.tmod a0 256) % 256),.int .u8 ((wrap64 ((a2.size:Int) + 128)) % 256)]) (ok:=fun _=>True) (okp:=fun _=>True) ?hr ?hp (fun _ hk=>hk) trivial (Below.refl _ _) (Nat.le_refl _) (by simp) ?_;(case hd=>rfl);(case hg=>rfl);(case hr=>exact Yn);(case hp=>exact Yv)
                intro v146 w13 ho14 hb hg_ hnew_
                clear hg_ hnew_
                (first|rw [← Ny145.out] at ho14|(simp only [Int.reduceToNat] at ho14;rw [← Ny145.out] at ho14))
                have HO147:=Aside0.mk (Kd.R_lower ho14 (below_size bH));replace HB:=Aside0.mk (below_step bH hb)
                clear hb ho14
                refine hK.out _ _ trivial (fun hHeld=>?_)
                clear hK K
                refine nM (N:=some 23) ?_
                exact norm_ Ye (hJ8 (v146) _ ⟨(rR HO147),bH⟩)
               ·skip
                refine Kd.R_make_step (Kd.int .u8) _ 5 (by rfl) (N:=30) rfl 22 _ _ rfl ji6 rfl rfl Try.underlying22 (.int .u8 0) 1 info5 rfl (by decide) Yy 0 (ok:=fun _=>True) (okp:=fun _=>True) rfl (fun _ hk=>hk) trivial (oD) (Nat.le_trans (Nat.mul_le_mul_right _ (oD:ji6.toNat ≤ 281474976710656)) Yy) (Below.refl _ _) (Nat.le_refl _) ?_
                intro v149 w13 ho14 hb hg_ hnew_
                clear hg_ hnew_
                (first|rw [← Ny148.out] at ho14|(simp only [Int.reduceToNat] at ho14;rw [← Ny148.out] at ho14))
                have HO150:=Aside0.mk (Kd.R_lower ho14 (below_size bH));replace HB:=Aside0.mk (below_step bH hb)
                clear hb ho14
                refine hK.out _ _ trivial (fun hHeld=>?_)
                clear hK K
                refine nM (N:=some 30) ?_
                exact norm_ Ye (hJ15 (v149) _ ⟨(rR HO150),bH⟩)
              ·skip
               rintro v149 w15 ⟨h0_,h1_⟩
               have n0_:Aside0 (Kd.R (Kd.int .u8) 5 w15 w.heap.size (fun _=>True) v149 y148):=⟨h0_⟩
               have n1_:Aside0 (Below w.heap.size w w15):=⟨h1_⟩
               clear HB
               clear h0_ h1_
               have HO150:=n0_
               have HB:=n1_
               clear n0_ n1_
               have hHeld:=trivial
               refine norm_ (a':=?_) ?_ ?_
               rotate_left
               ·simp only [putAll,Act.put,List.setIfInBounds_toArray,List.set_cons_zero,List.set_cons_succ]
                rfl
               refine two_ (i:=8) (j:=16) (Ni:=some 23) (Nj:=some 31) #[true,true,true,true,true,true,true,true,true,false,true,false,true,true,true,true,false,false,false] #[true,true,true,true,true,true,true,true,false,false,true,false,true,true,true,true,true,false,false] rfl rfl rfl rfl (two_of HT_.out (by kernel_rfl)) (by decide) (by decide) (fun K hK=>?_) (fun K hK=>?_)
               ·skip
                refine Kd.R_lit_step (Kd.int .u8) _ 5 ?hg (N:=23) ?hd (xs:=([(wrap64 (Int.tdiv a0 256)) % 256,(Int.tmod a0 256) % 256,(wrap64 ((a2.size:Int) + 128)) % 256]:List Int)) (inner:=[.int .u8 ((wrap64 (Int.tdiv a0 256)) % 256),.int .u8 ((Int.tmod a0 256) % 256),.int .u8 ((wrap64 ((a2.size:Int) + 128)) % 256)]) (ok:=fun _=>True) (okp:=fun _=>True) ?hr ?hp (fun _ hk=>hk) trivial (Below.refl _ _) (Nat.le_refl _) (by simp) ?_;(case hd=>rfl);(case hg=>rfl);(case hr=>exact Yn);(case hp=>exact Yv)
                intro v146 w16 ho17 hb hg_ hnew_
                clear hg_ hnew_
                (first|rw [← Ny145.out] at ho17|(simp only [Int.reduceToNat] at ho17;rw [← Ny145.out] at ho17))
                have HO147:=Aside0.mk (Kd.R_lower (Kd.R_new' ho17 (Kd.R_lt (rR HO150))) (below_size bH));replace HO150:=Aside0.mk (Kd.R_elder' (rR HO150) (Kd.R_base ho17) hb);replace HB:=Aside0.mk (below_step bH hb)
                clear hb ho17
                refine hK.out _ _ trivial (fun hHeld=>?_)
                clear hK K
                refine nM (N:=some 23) ?_
                exact norm_ Ye (hJ8_15 (v146,v149) _ ⟨Zs,Zr,bH⟩)
               ·skip
                have hcv16:=own_string (P:=Try.prog) Try.underlying22 Try.underlying5 Try.underlying9 (Kd.own_of_R HO150.out)
                refine value_ (w1:=?_) (v:=?_) (by rfl) rfl ?_ ?_
                rotate_left 2
                ·go_simp
                 constructor
                 ·rfl
                 ·rfl
                clear hcv16
                refine hK.out _ _ trivial (fun hHeld=>?_)
                clear hK K
                refine nM (N:=some 31) ?_
                exact norm_ Ye (hJ15_16 (v149) _ ⟨(rR HO150),bH⟩)
             ·skip
              rintro v146 w15 ⟨h0_,h1_⟩
              have n0_:Aside0 (Kd.R (Kd.int .u8) 5 w15 w.heap.size (fun _=>True) v146 y145):=⟨h0_⟩
              have n1_:Aside0 (Below w.heap.size w w15):=⟨h1_⟩
              clear HB
              clear h0_ h1_
              have HO147:=n0_
              have HB:=n1_
              clear n0_ n1_
              have hHeld:=trivial
              refine norm_ (a':=?_) ?_ ?_
              rotate_left
              ·simp only [putAll,Act.put,List.setIfInBounds_toArray,List.set_cons_zero,List.set_cons_succ]
               rfl
              refine two_ (i:=9) (j:=15) (Ni:=some 24) (Nj:=some 30) #[true,true,true,true,true,true,true,true,true,true,true,false,true,true,true,false,false,false,false] #[true,true,true,true,true,true,true,true,true,false,true,false,true,true,true,true,false,false,false] rfl rfl rfl rfl (two_of HT_.out (by kernel_rfl)) (by decide) (by decide) (fun K hK=>?_) (fun K hK=>?_)
              ·skip
               have hcv16:=own_string (P:=Try.prog) Try.underlying22 Try.underlying5 Try.underlying9 (Kd.own_of_R HO147.out)
               refine value_ (w1:=?_) (v:=?_) (by rfl) rfl ?_ ?_
               rotate_left 2
               ·go_simp
                constructor
                ·rfl
                ·rfl
               clear hcv16
               refine hK.out _ _ trivial (fun hHeld=>?_)
               clear hK K
               refine nM (N:=some 24) ?_
               refine pU (i:=11) (N:=some 26) #[true,true,true,true,true,true,true,true,true,true,true,true,true,true,true,false,false,false,false] (any_of HT_.out (by kernel_rfl)) ?_
               exact norm_ Ye (hJ8_9 (v146) _ ⟨(rR HO147),bH⟩)
              ·skip
               refine Kd.R_make_step (Kd.int .u8) _ 5 (by rfl) (N:=30) rfl 22 _ _ rfl ji6 rfl rfl Try.underlying22 (.int .u8 0) 1 info5 rfl (by decide) Yy 0 (ok:=fun _=>True) (okp:=fun _=>True) rfl (fun _ hk=>hk) trivial (oD) (Nat.le_trans (Nat.mul_le_mul_right _ (oD:ji6.toNat ≤ 281474976710656)) Yy) (Below.refl _ _) (Nat.le_refl _) ?_
               intro v149 w16 ho17 hb hg_ hnew_
               clear hg_ hnew_
               (first|rw [← Ny148.out] at ho17|(simp only [Int.reduceToNat] at ho17;rw [← Ny148.out] at ho17))
               have HO150:=Aside0.mk (Kd.R_lower (Kd.R_new' ho17 (Kd.R_lt (rR HO147))) (below_size bH));replace HO147:=Aside0.mk (Kd.R_elder' (rR HO147) (Kd.R_base ho17) hb);replace HB:=Aside0.mk (below_step bH hb)
               clear hb ho17
               refine hK.out _ _ trivial (fun hHeld=>?_)
               clear hK K
               refine nM (N:=some 30) ?_
               exact norm_ Ye (hJ8_15 (v146,v149) _ ⟨Zs,Zr,bH⟩)
            ·skip
             rintro v149 w16 ⟨h0_,h1_⟩
             have n0_:Aside0 (Kd.R (Kd.int .u8) 5 w16 w.heap.size (fun _=>True) v149 y148):=⟨h0_⟩
             have n1_:Aside0 (Below w.heap.size w w16):=⟨h1_⟩
             clear HB
             clear h0_ h1_
             have HO150:=n0_
             have HB:=n1_
             clear n0_ n1_
             have hHeld:=trivial
             refine norm_ (a':=?_) ?_ ?_
             rotate_left
             ·simp only [putAll,Act.put,List.setIfInBounds_toArray,List.set_cons_zero,List.set_cons_succ]
              rfl
             refine one_ (i:=8) (N:=some 23) #[true,true,true,true,true,true,true,true,true,false,true,false,true,true,true,true,true,false,false] rfl rfl (one_of HT_.out (by kernel_rfl)) (by decide) (fun K hK=>?_)
             refine Kd.R_lit_step (Kd.int .u8) _ 5 ?hg (N:=23) ?hd (xs:=([(wrap64 (Int.tdiv a0 256)) % 256,(Int.tmod a0 256) % 256,(wrap64 ((a2.size:Int) + 128)) % 256]:List Int)) (inner:=[.int .u8 ((wrap64 (Int.tdiv a0 256)) % 256),.int .u8 ((Int.tmod a0 256) % 256),.int .u8 ((wrap64 ((a2.size:Int) + 128)) % 256)]) (ok:=fun _=>True) (okp:=fun _=>True) ?hr ?hp (fun _ hk=>hk) trivial (Below.refl _ _) (Nat.le_refl _) (by simp) ?_;(case hd=>rfl);(case hg=>rfl);(case hr=>exact Yn);(case hp=>exact Yv)
             intro v146 w17 ho18 hb hg_ hnew_
             clear hg_ hnew_
             (first|rw [← Ny145.out] at ho18|(simp only [Int.reduceToNat] at ho18;rw [← Ny145.out] at ho18))
             have HO147:=Aside0.mk (Kd.R_lower (Kd.R_new' ho18 (Kd.R_lt (rR HO150))) (below_size bH));replace HO150:=Aside0.mk (Kd.R_elder' (rR HO150) (Kd.R_base ho18) hb);replace HB:=Aside0.mk (below_step bH hb)
             clear hb ho18
             refine hK.out _ _ trivial (fun hHeld=>?_)
             clear hK K
             refine nM (N:=some 23) ?_
             exact norm_ Ye (hJ8_15_16 (v146,v149) _ ⟨Zs,Zr,bH⟩)
           ·skip
            rintro ⟨v146,v149⟩ w17 ⟨h0_,h1_,h2_⟩
            have n0_:Aside0 (Kd.R (Kd.int .u8) 5 w17 w.heap.size (fun k_=>some k_ ≠ (v149:Value).ownBlock) v146 y145):=⟨h0_⟩
            have n1_:Aside0 (Kd.R (Kd.int .u8) 5 w17 w.heap.size (fun k_=>some k_ ≠ (v146:Value).ownBlock) v149 y148):=⟨h1_⟩
            have n2_:Aside0 (Below w.heap.size w w17):=⟨h2_⟩
            clear HB
            clear h0_ h1_ h2_
            have HO147:=n0_
            have HO150:=n1_
            have HB:=n2_
            clear n0_ n1_ n2_
            have hHeld:=trivial
            refine norm_ (a':=?_) ?_ ?_
            rotate_left
            ·simp only [putAll,Act.put,List.setIfInBounds_toArray,List.set_cons_zero,List.set_cons_succ]
             rfl
            refine two_ (i:=9) (j:=16) (Ni:=some 24) (Nj:=some 31) #[true,true,true,true,true,true,true,true,true,true,true,false,true,true,true,true,false,false,false] #[true,true,true,true,true,true,true,true,true,false,true,false,true,true,true,true,true,false,false] rfl rfl rfl rfl (two_of HT_.out (by kernel_rfl)) (by decide) (by decide) (fun K hK=>?_) (fun K hK=>?_)
            ·skip
             have hcv18:=own_string (P:=Try.prog) Try.underlying22 Try.underlying5 Try.underlying9 (Kd.own_of_R HO147.out)
             refine value_ (w1:=?_) (v:=?_) (by rfl) rfl ?_ ?_
             rotate_left 2
             ·go_simp
              constructor
              ·rfl
              ·rfl
             clear hcv18
             refine hK.out _ _ trivial (fun hHeld=>?_)
             clear hK K
             refine nM (N:=some 24) ?_
             refine pU (i:=11) (N:=some 26) #[true,true,true,true,true,true,true,true,true,true,true,true,true,true,true,true,false,false,false] (any_of HT_.out (by kernel_rfl)) ?_
             exact norm_ Ye (hJ8_9_15 (v146,v149) _ ⟨(rR HO147),(rR HO150),bH⟩)
            ·skip
             have hcv18:=own_string (P:=Try.prog) Try.underlying22 Try.underlying5 Try.underlying9 (Kd.own_of_R HO150.out)
             refine value_ (w1:=?_) (v:=?_) (by rfl) rfl ?_ ?_
             rotate_left 2
             ·go_simp
              constructor
              ·rfl
              ·rfl
             clear hcv18
             refine hK.out _ _ trivial (fun hHeld=>?_)
             clear hK K
             refine nM (N:=some 31) ?_
             exact norm_ Ye (hJ8_15_16 (v146,v149) _ ⟨(rR HO147),(rR HO150),bH⟩)
          ·skip
           rintro v146 w16 ⟨h0_,h1_⟩
           have n0_:Aside0 (Kd.R (Kd.int .u8) 5 w16 w.heap.size (fun _=>True) v146 y145):=⟨h0_⟩
           have n1_:Aside0 (Below w.heap.size w w16):=⟨h1_⟩
           clear HB
           clear h0_ h1_
           have HO147:=n0_
           have HB:=n1_
           clear n0_ n1_
           have hHeld:=trivial
           refine norm_ (a':=?_) ?_ ?_
           rotate_left
           ·simp only [putAll,Act.put,List.setIfInBounds_toArray,List.set_cons_zero,List.set_cons_succ]
            rfl
           refine one_ (i:=15) (N:=some 30) #[true,true,true,true,true,true,true,true,true,true,true,true,true,true,true,true,false,false,false] rfl rfl (one_of HT_.out (by kernel_rfl)) (by decide) (fun K hK=>?_)
           refine Kd.R_make_step (Kd.int .u8) _ 5 (by rfl) (N:=30) rfl 22 _ _ rfl ji6 rfl rfl Try.underlying22 (.int .u8 0) 1 info5 rfl (by decide) Yy 0 (ok:=fun _=>True) (okp:=fun _=>True) rfl (fun _ hk=>hk) trivial (oD) (Nat.le_trans (Nat.mul_le_mul_right _ (oD:ji6.toNat ≤ 281474976710656)) Yy) (Below.refl _ _) (Nat.le_refl _) ?_
           intro v149 w17 ho18 hb hg_ hnew_
           clear hg_ hnew_
           (first|rw [← Ny148.out] at ho18|(simp only [Int.reduceToNat] at ho18;rw [← Ny148.out] at ho18))
           have HO150:=Aside0.mk (Kd.R_lower (Kd.R_new' ho18 (Kd.R_lt (rR HO147))) (below_size bH));replace HO147:=Aside0.mk (Kd.R_elder' (rR HO147) (Kd.R_base ho18) hb);replace HB:=Aside0.mk (below_step bH hb)
           clear hb ho18
           refine hK.out _ _ trivial (fun hHeld=>?_)
           clear hK K
           refine nM (N:=some 30) ?_
           exact norm_ Ye (hJ8_9_15 (v146,v149) _ ⟨Zs,Zr,bH⟩)
         ·skip
          rintro ⟨v146,v149⟩ w18 ⟨h0_,h1_,h2_⟩
          have n0_:Aside0 (Kd.R (Kd.int .u8) 5 w18 w.heap.size (fun k_=>some k_ ≠ (v149:Value).ownBlock) v146 y145):=⟨h0_⟩
          have n1_:Aside0 (Kd.R (Kd.int .u8) 5 w18 w.heap.size (fun k_=>some k_ ≠ (v146:Value).ownBlock) v149 y148):=⟨h1_⟩
          have n2_:Aside0 (Below w.heap.size w w18):=⟨h2_⟩
          clear HB
          clear h0_ h1_ h2_
          have HO147:=n0_
          have HO150:=n1_
          have HB:=n2_
          clear n0_ n1_ n2_
          have hHeld:=trivial
          refine norm_ (a':=?_) ?_ ?_
          rotate_left
          ·simp only [putAll,Act.put,List.setIfInBounds_toArray,List.set_cons_zero,List.set_cons_succ]
           rfl
          refine one_ (i:=9) (N:=some 24) #[true,true,true,true,true,true,true,true,true,true,true,false,true,true,true,true,true,false,false] rfl rfl (one_of HT_.out (by kernel_rfl)) (by decide) (fun K hK=>?_)
          have hcv19:=own_string (P:=Try.prog) Try.underlying22 Try.underlying5 Try.underlying9 (Kd.own_of_R HO147.out)
          refine value_ (w1:=?_) (v:=?_) (by rfl) rfl ?_ ?_
          rotate_left 2
          ·go_simp
           constructor
           ·rfl
           ·rfl
          clear hcv19
          refine hK.out _ _ trivial (fun hHeld=>?_)
          clear hK K
          refine nM (N:=some 24) ?_
          refine pU (i:=11) (N:=some 26) #[true,true,true,true,true,true,true,true,true,true,true,true,true,true,true,true,true,false,false] (any_of HT_.out (by kernel_rfl)) ?_
          exact norm_ Ye (hJ8_9_15_16 (v146,v149) _ ⟨(rR HO147),(rR HO150),bH⟩)
        ·skip
         rintro ⟨v146,v149⟩ w18 ⟨h0_,h1_,h2_⟩
         have n0_:Aside0 (Kd.R (Kd.int .u8) 5 w18 w.heap.size (fun k_=>some k_ ≠ (v149:Value).ownBlock) v146 y145):=⟨h0_⟩
         have n1_:Aside0 (Kd.R (Kd.int .u8) 5 w18 w.heap.size (fun k_=>some k_ ≠ (v146:Value).ownBlock) v149 y148):=⟨h1_⟩
         have n2_:Aside0 (Below w.heap.size w w18):=⟨h2_⟩
         clear HB
         clear h0_ h1_ h2_
         have HO147:=n0_
         have HO150:=n1_
         have HB:=n2_
         clear n0_ n1_ n2_
         have hHeld:=trivial
         refine norm_ (a':=?_) ?_ ?_
         rotate_left
         ·simp only [putAll,Act.put,List.setIfInBounds_toArray,List.set_cons_zero,List.set_cons_succ]
          rfl
         refine one_ (i:=16) (N:=some 31) #[true,true,true,true,true,true,true,true,true,true,true,true,true,true,true,true,true,false,false] rfl rfl (one_of HT_.out (by kernel_rfl)) (by decide) (fun K hK=>?_)
         have hcv19:=own_string (P:=Try.prog) Try.underlying22 Try.underlying5 Try.underlying9 (Kd.own_of_R HO150.out)
         refine value_ (w1:=?_) (v:=?_) (by rfl) rfl ?_ ?_
         rotate_left 2
         ·go_simp
          constructor
          ·rfl
          ·rfl
         clear hcv19
         refine hK.out _ _ trivial (fun hHeld=>?_)
         clear hK K
         refine nM (N:=some 31) ?_
         exact norm_ Ye (hJ8_9_15_16 (v146,v149) _ ⟨(rR HO147),(rR HO150),bH⟩)
       rintro ⟨v146,v149⟩ w19 ⟨h0_,h1_,h2_⟩
       have n0_:Aside0 (Kd.R (Kd.int .u8) 5 w19 w.heap.size (fun k_=>some k_ ≠ (v149:Value).ownBlock) v146 y145):=⟨h0_⟩
       have n1_:Aside0 (Kd.R (Kd.int .u8) 5 w19 w.heap.size (fun k_=>some k_ ≠ (v146:Value).ownBlock) v149 y148):=⟨h1_⟩
       have n2_:Aside0 (Below w.heap.size w w19):=⟨h2_⟩
       clear HB
       clear h0_ h1_ h2_
       have HO147:=n0_
       have HO150:=n1_
       have HB:=n2_
       clear n0_ n1_ n2_
       have hHeld:=trivial
       refine norm_ (a':=?_) ?_ ?_
       rotate_left
       ·simp only [putAll,Act.put,List.setIfInBounds_toArray,List.set_cons_zero,List.set_cons_succ]
        rfl
       refine pU (i:=17) (N:=some 32) #[true,true,true,true,true,true,true,true,true,true,true,true,true,true,true,true,true,true,false] (any_of HT_.out (by kernel_rfl)) ?_
       refine pU (i:=18) (N:=some 8) #[true,true,true,true,true,true,true,true,true,true,true,true,true,true,true,true,true,true,true] (any_of HT_.out (by kernel_rfl)) ?_
       refine done_ (done_of HT_.out (by kernel_rfl)) ?_
       try go_wp2_with (first|((with_reducible refine gate_callee (f:=105) rfl ?_);refine goesL_ (some 34) rfl rfl Try.func105 (by kernel_rfl) rfl #[.string (((strOfNums y145) ++ a2) ++ (strOfNums y148))] rfl Ya ?_;(with_reducible refine (spec_l10Sum.calls k (((strOfNums y145) ++ a2) ++ (strOfNums y148)) t151 _ A10.out).mono ?_);rintro e w' ⟨rfl,⟨nd,rfl⟩⟩;refine ⟨_,rfl,?_⟩)|((with_reducible refine gate_dst (N:=42) rfl ?_);refine Kd.R_lit (Kd.int .u8) _ 5 ?hg (N:=42) ?hd (xs:=([(wrap64 (Int.tdiv t151 256)) % 256,(Int.tmod t151 256) % 256,1]:List Int)) (inner:=[.int .u8 ((wrap64 (Int.tdiv t151 256)) % 256),.int .u8 ((Int.tmod t151 256) % 256),.int .u8 1]) (ok:=fun _=>True) (okp:=fun _=>True) ?hr ?hp (fun _ hk=>hk) trivial (Below.refl _ _) (Nat.le_refl _) (by simp) ?_;(case hd=>rfl);(case hg=>rfl);(case hr=>exact Yn);(case hp=>exact (Reps.one (show Kd.M (Kd.int .u8) _ _ _ ((wrap64 (Int.tdiv t151 256)) % 256) [.int .u8 ((wrap64 (Int.tdiv t151 256)) % 256)] from rfl) (Reps.one (show Kd.M (Kd.int .u8) _ _ _ ((Int.tmod t151 256) % 256) [.int .u8 ((Int.tmod t151 256) % 256)] from rfl) (Reps.one (show Kd.M (Kd.int .u8) _ _ _ 1 [.int .u8 1] from rfl) (Reps.none _ _)))));intro v153 w20 ho21 hb hg_ hnew_;clear hg_ hnew_;(first|rw [← Ny152.out] at ho21|(simp only [Int.reduceToNat] at ho21;rw [← Ny152.out] at ho21));have HO154:=Aside0.mk (Kd.R_lower (Kd.R_new' (Kd.R_new' ho21 (Kd.R_lt (rR HO147))) (Kd.R_lt (rR HO150))) (below_size bH));replace HO147:=Aside0.mk (Kd.R_elder' (rR HO147) (Kd.R_base ho21) hb);replace HO150:=Aside0.mk (Kd.R_elder' (rR HO150) (Kd.R_base ho21) hb);replace HB:=Aside0.mk (below_step bH hb);clear hb ho21;have hcv22:=own_string (P:=Try.prog) Try.underlying22 Try.underlying5 Try.underlying9 (Kd.own_of_R HO154.out)))
       go_ret
       exact ⟨by first|rfl|(simp [errW_none,errW_some] <;> rfl)|(simp only [← hji6];first|rfl|(simp [errW_none,errW_some] <;> rfl))|(simp [*,errW_none,errW_some] <;> rfl),bH⟩
      ·rw [if_neg c11] at H
       exact absurd H (by simp)
     ·rw [if_neg c9] at H
      exact absurd H (by simp)
    ·rw [if_neg c8] at H
     exact absurd H (by simp)
   ·rw [if_neg c7] at H
    exact absurd H (by simp)
  ·rw [if_neg c5] at H
   exact absurd H (by simp)
 ·replace c4:=Bool.eq_false_iff.mpr c4
  subst c4
  have H1:((some (([(wrap64 (Int.tdiv a0 256)) % 256,(Int.tmod a0 256) % 256,((a2.size:Int)) % 256]:List Int):List Int)).bind fun y155=>(if (strOfNums y155).size + a2.size ≤ 9223372036854775807 then (if 0 ≤ (wrap64 (10 - (a2.size:Int))) then (if (wrap64 (10 - (a2.size:Int)):Int).toNat ≤ 281474976710656 then ((some (List.replicate (wrap64 (10 - (a2.size:Int)):Int).toNat 0:List Int)).bind fun y158=>(if ((strOfNums y155) ++ a2).size + (strOfNums y158).size ≤ 9223372036854775807 then ((spec_l10Sum.f k (((strOfNums y155) ++ a2) ++ (strOfNums y158))).bind fun t161=>((some (([(wrap64 (Int.tdiv t161 256)) % 256,(Int.tmod t161 256) % 256,1]:List Int):List Int)).bind fun y162=>(if (((strOfNums y155) ++ a2) ++ (strOfNums y158)).size + (strOfNums y162).size ≤ 9223372036854775807 then (some ((((strOfNums y155) ++ a2) ++ (strOfNums y158)) ++ (strOfNums y162))) else (none)))) else (none))) else (none)) else (none)) else (none))) = some r:=by rw [if_neg (show ¬ (false = true) by decide)] at H;exact H
  clear H
  have H:=H1
  clear H1
  obtain ⟨y155,hy155⟩:∃ y_:List Int,y_ = (([(wrap64 (Int.tdiv a0 256)) % 256,(Int.tmod a0 256) % 256,((a2.size:Int)) % 256]:List Int)):=⟨_,rfl⟩
  replace H:(if (strOfNums y155).size + a2.size ≤ 9223372036854775807 then (if 0 ≤ (wrap64 (10 - (a2.size:Int))) then (if (wrap64 (10 - (a2.size:Int)):Int).toNat ≤ 281474976710656 then ((some (List.replicate (wrap64 (10 - (a2.size:Int)):Int).toNat 0:List Int)).bind fun y158=>(if ((strOfNums y155) ++ a2).size + (strOfNums y158).size ≤ 9223372036854775807 then ((spec_l10Sum.f k (((strOfNums y155) ++ a2) ++ (strOfNums y158))).bind fun t161=>((some (([(wrap64 (Int.tdiv t161 256)) % 256,(Int.tmod t161 256) % 256,1]:List Int):List Int)).bind fun y162=>(if (((strOfNums y155) ++ a2) ++ (strOfNums y158)).size + (strOfNums y162).size ≤ 9223372036854775807 then (some ((((strOfNums y155) ++ a2) ++ (strOfNums y158)) ++ (strOfNums y162))) else (none)))) else (none))) else (none)) else (none)) else (none)) = some r:=by first|(rw [hy155];with_reducible exact H)|(have H2_:=(Option.bind_some _ _).symm.trans H;rw [hy155];with_reducible exact H2_)|(have H2_:=(Option.bind_some _ _).symm.trans H;with_reducible exact H2_)|with_reducible exact H|(rw [hy155];exact H)|exact H
  have Ny155:=Aside0.mk hy155
  clear hy155
  by_cases c23:(strOfNums y155).size + a2.size ≤ 9223372036854775807
  ·rw [if_pos c23] at H
   have c23b0:=eq_true c23
   have c23b1:=decide_eq_true c23
   try have c23b2:(9223372036854775807 < (strOfNums y155).size + a2.size) = False:=eq_false (Nat.not_lt.2 c23)
   obtain ⟨ji24,hji24⟩:∃ j_:Int,(wrap64 (10 - (a2.size:Int))) = j_:=⟨_,rfl⟩
   replace H:(if 0 ≤ (ji24) then (if (ji24:Int).toNat ≤ 281474976710656 then ((some (List.replicate (ji24:Int).toNat 0:List Int)).bind fun y158=>(if ((strOfNums y155) ++ a2).size + (strOfNums y158).size ≤ 9223372036854775807 then ((spec_l10Sum.f k (((strOfNums y155) ++ a2) ++ (strOfNums y158))).bind fun t161=>((some (([(wrap64 (Int.tdiv t161 256)) % 256,(Int.tmod t161 256) % 256,1]:List Int):List Int)).bind fun y162=>(if (((strOfNums y155) ++ a2) ++ (strOfNums y158)).size + (strOfNums y162).size ≤ 9223372036854775807 then (some ((((strOfNums y155) ++ a2) ++ (strOfNums y158)) ++ (strOfNums y162))) else (none)))) else (none))) else (none)) else (none)) = some r:=by first|(rw [hji24] at H;exact H)|(simp only [hji24] at H ⊢;exact H)
   have hji24w:(IntKind.i64.wrap (10 - (a2.size:Int))) = ji24:=(i64_w _).trans hji24
   by_cases c25:0 ≤ (ji24)
   ·rw [if_pos c25] at H
    have c25b0:=eq_true c25
    have c25b1:=decide_eq_true c25
    clear c25
    by_cases c26:(ji24:Int).toNat ≤ 281474976710656
    ·rw [if_pos c26] at H
     have c26b0:=eq_true c26
     have c26b1:=decide_eq_true c26
     clear c26
     obtain ⟨y158,hy158⟩:∃ y_:List Int,y_ = (List.replicate (ji24:Int).toNat 0):=⟨_,rfl⟩
     replace H:(if ((strOfNums y155) ++ a2).size + (strOfNums y158).size ≤ 9223372036854775807 then ((spec_l10Sum.f k (((strOfNums y155) ++ a2) ++ (strOfNums y158))).bind fun t161=>((some (([(wrap64 (Int.tdiv t161 256)) % 256,(Int.tmod t161 256) % 256,1]:List Int):List Int)).bind fun y162=>(if (((strOfNums y155) ++ a2) ++ (strOfNums y158)).size + (strOfNums y162).size ≤ 9223372036854775807 then (some ((((strOfNums y155) ++ a2) ++ (strOfNums y158)) ++ (strOfNums y162))) else (none)))) else (none)) = some r:=by first|(rw [hy158];with_reducible exact H)|(have H2_:=(Option.bind_some _ _).symm.trans H;rw [hy158];with_reducible exact H2_)|(have H2_:=(Option.bind_some _ _).symm.trans H;with_reducible exact H2_)|with_reducible exact H|(rw [hy158];exact H)|exact H
     have Ny158:=Aside0.mk hy158
     clear hy158
     by_cases c27:((strOfNums y155) ++ a2).size + (strOfNums y158).size ≤ 9223372036854775807
     ·rw [if_pos c27] at H
      have c27b0:=eq_true c27
      have c27b1:=decide_eq_true c27
      try have c27b2:(9223372036854775807 < ((strOfNums y155) ++ a2).size + (strOfNums y158).size) = False:=eq_false (Nat.not_lt.2 c27)
      try (have c27b3:=c27b2;simp only [ByteArray.size_append] at c27b3)
      replace H:=Option.bind_eq_some_iff.mp H
      obtain ⟨t161,A280,H⟩:=H
      replace H:((some (([(wrap64 (Int.tdiv t161 256)) % 256,(Int.tmod t161 256) % 256,1]:List Int):List Int)).bind fun y162=>(if (((strOfNums y155) ++ a2) ++ (strOfNums y158)).size + (strOfNums y162).size ≤ 9223372036854775807 then (some ((((strOfNums y155) ++ a2) ++ (strOfNums y158)) ++ (strOfNums y162))) else (none))) = some r:=H
      have A28:=Aside0.mk A280
      clear A280
      obtain ⟨y162,hy162⟩:∃ y_:List Int,y_ = (([(wrap64 (Int.tdiv t161 256)) % 256,(Int.tmod t161 256) % 256,1]:List Int)):=⟨_,rfl⟩
      replace H:(if (((strOfNums y155) ++ a2) ++ (strOfNums y158)).size + (strOfNums y162).size ≤ 9223372036854775807 then (some ((((strOfNums y155) ++ a2) ++ (strOfNums y158)) ++ (strOfNums y162))) else (none)) = some r:=by first|(rw [hy162];with_reducible exact H)|(have H2_:=(Option.bind_some _ _).symm.trans H;rw [hy162];with_reducible exact H2_)|(have H2_:=(Option.bind_some _ _).symm.trans H;with_reducible exact H2_)|with_reducible exact H|(rw [hy162];exact H)|exact H
      have Ny162:=Aside0.mk hy162
      clear hy162
      by_cases c29:(((strOfNums y155) ++ a2) ++ (strOfNums y158)).size + (strOfNums y162).size ≤ 9223372036854775807
      ·rw [if_pos c29] at H
       have c29b0:=eq_true c29
       have c29b1:=decide_eq_true c29
       try have c29b2:(9223372036854775807 < (((strOfNums y155) ++ a2) ++ (strOfNums y158)).size + (strOfNums y162).size) = False:=eq_false (Nat.not_lt.2 c29)
       try (have c29b3:=c29b2;simp only [ByteArray.size_append] at c29b3)
       obtain rfl:=Option.some.inj H
       go_enter Try.func89,Try.ntmps89
       try go_wp2
       replace HB:=Aside0.mk (below_drew1 HB.out)
       refine start_ (n:=19) (S:=fun w'=>True) (ds:=[]) #[false,false,false,false,false,false,false,false,false,false,false,false,false,false,false,false,false,false,false] (by kernel_rfl) rfl rfl trivial (fun hHeld=>?_);refine with_tabW spec_l13Sector.tab4 spec_l13Sector.bits4 (fun HT_ HW_=>?_)
       generalize w.drew = w30 at HB hHeld ⊢
       refine pU (i:=0) (N:=some 15) #[true,false,false,false,false,false,false,false,false,false,false,false,false,false,false,false,false,false,false] (any_of HT_.out (by kernel_rfl)) ?_
       refine pU (i:=1) (N:=some 16) #[true,true,false,false,false,false,false,false,false,false,false,false,false,false,false,false,false,false,false] (any_of HT_.out (by kernel_rfl)) ?_
       refine pU (i:=2) (N:=some 17) #[true,true,true,false,false,false,false,false,false,false,false,false,false,false,false,false,false,false,false] (any_of HT_.out (by kernel_rfl)) ?_
       refine pU (i:=3) (N:=some 18) #[true,true,true,true,false,false,false,false,false,false,false,false,false,false,false,false,false,false,false] (any_of HT_.out (by kernel_rfl)) ?_
       refine pU (i:=4) (N:=some 19) #[true,true,true,true,true,false,false,false,false,false,false,false,false,false,false,false,false,false,false] (any_of HT_.out (by kernel_rfl)) ?_
       refine pU (i:=5) (N:=some 20) #[true,true,true,true,true,true,false,false,false,false,false,false,false,false,false,false,false,false,false] (any_of HT_.out (by kernel_rfl)) ?_
       refine pU (i:=6) (N:=some 21) #[true,true,true,true,true,true,true,false,false,false,false,false,false,false,false,false,false,false,false] (any_of HT_.out (by kernel_rfl)) ?_
       refine pU (i:=7) (N:=some 22) #[true,true,true,true,true,true,true,true,false,false,false,false,false,false,false,false,false,false,false] (any_of HT_.out (by kernel_rfl)) ?_
       refine pU (i:=10) (N:=some 25) #[true,true,true,true,true,true,true,true,false,false,true,false,false,false,false,false,false,false,false] (any_of HT_.out (by kernel_rfl)) ?_
       refine pU (i:=12) (N:=some 27) #[true,true,true,true,true,true,true,true,false,false,true,false,true,false,false,false,false,false,false] (any_of HT_.out (by kernel_rfl)) ?_
       refine pU (i:=13) (N:=some 28) #[true,true,true,true,true,true,true,true,false,false,true,false,true,true,false,false,false,false,false] (any_of HT_.out (by kernel_rfl)) ?_
       refine pU (i:=14) (N:=some 29) #[true,true,true,true,true,true,true,true,false,false,true,false,true,true,true,false,false,false,false] (any_of HT_.out (by kernel_rfl)) ?_
       refine join_ (σ:=Value × Value) 2 #[true,true,true,true,true,true,true,true,true,true,true,true,true,true,true,true,true,false,false] (fun s_=>[(23,s_.1),(24,.string (strOfNums y155)),(30,s_.2),(31,.string (strOfNums y158)),(26,.string ((strOfNums y155) ++ a2))]) (fun s_ w'=>(Kd.R (Kd.int .u8) 5 w' w.heap.size (fun k_=>some k_ ≠ (s_.2:Value).ownBlock) s_.1 y155) ∧ (Kd.R (Kd.int .u8) 5 w' w.heap.size (fun k_=>some k_ ≠ (s_.1:Value).ownBlock) s_.2 y158) ∧ (Below w.heap.size w w')) ?_ ?_
       rotate_left
       ·intro hJ8_9_15_16
        refine join_ (σ:=Value × Value) 3 #[true,true,true,true,true,true,true,true,true,true,true,true,true,true,true,true,false,false,false] (fun s_=>[(23,s_.1),(24,.string (strOfNums y155)),(30,s_.2),(26,.string ((strOfNums y155) ++ a2))]) (fun s_ w'=>(Kd.R (Kd.int .u8) 5 w' w.heap.size (fun k_=>some k_ ≠ (s_.2:Value).ownBlock) s_.1 y155) ∧ (Kd.R (Kd.int .u8) 5 w' w.heap.size (fun k_=>some k_ ≠ (s_.1:Value).ownBlock) s_.2 y158) ∧ (Below w.heap.size w w')) ?_ ?_
        rotate_left
        ·intro hJ8_9_15
         refine join_ (σ:=Value × Value) 4 #[true,true,true,true,true,true,true,true,true,false,true,false,true,true,true,true,true,false,false] (fun s_=>[(23,s_.1),(30,s_.2),(31,.string (strOfNums y158))]) (fun s_ w'=>(Kd.R (Kd.int .u8) 5 w' w.heap.size (fun k_=>some k_ ≠ (s_.2:Value).ownBlock) s_.1 y155) ∧ (Kd.R (Kd.int .u8) 5 w' w.heap.size (fun k_=>some k_ ≠ (s_.1:Value).ownBlock) s_.2 y158) ∧ (Below w.heap.size w w')) ?_ ?_
         rotate_left
         ·intro hJ8_15_16
          refine join_ (σ:=Value) 4 #[true,true,true,true,true,true,true,true,true,true,true,true,true,true,true,false,false,false,false] (fun s_=>[(23,s_),(24,.string (strOfNums y155)),(26,.string ((strOfNums y155) ++ a2))]) (fun s_ w'=>(Kd.R (Kd.int .u8) 5 w' w.heap.size (fun _=>True) s_ y155) ∧ (Below w.heap.size w w')) ?_ ?_
          rotate_left
          ·intro hJ8_9
           refine join_ (σ:=Value × Value) 5 #[true,true,true,true,true,true,true,true,true,false,true,false,true,true,true,true,false,false,false] (fun s_=>[(23,s_.1),(30,s_.2)]) (fun s_ w'=>(Kd.R (Kd.int .u8) 5 w' w.heap.size (fun k_=>some k_ ≠ (s_.2:Value).ownBlock) s_.1 y155) ∧ (Kd.R (Kd.int .u8) 5 w' w.heap.size (fun k_=>some k_ ≠ (s_.1:Value).ownBlock) s_.2 y158) ∧ (Below w.heap.size w w')) ?_ ?_
           rotate_left
           ·intro hJ8_15
            refine join_ (σ:=Value) 5 #[true,true,true,true,true,true,true,true,false,false,true,false,true,true,true,true,true,false,false] (fun s_=>[(30,s_),(31,.string (strOfNums y158))]) (fun s_ w'=>(Kd.R (Kd.int .u8) 5 w' w.heap.size (fun _=>True) s_ y158) ∧ (Below w.heap.size w w')) ?_ ?_
            rotate_left
            ·intro hJ15_16
             refine join_ (σ:=Value) 6 #[true,true,true,true,true,true,true,true,true,false,true,false,true,true,true,false,false,false,false] (fun s_=>[(23,s_)]) (fun s_ w'=>(Kd.R (Kd.int .u8) 5 w' w.heap.size (fun _=>True) s_ y155) ∧ (Below w.heap.size w w')) ?_ ?_
             rotate_left
             ·intro hJ8
              refine join_ (σ:=Value) 6 #[true,true,true,true,true,true,true,true,false,false,true,false,true,true,true,true,false,false,false] (fun s_=>[(30,s_)]) (fun s_ w'=>(Kd.R (Kd.int .u8) 5 w' w.heap.size (fun _=>True) s_ y158) ∧ (Below w.heap.size w w')) ?_ ?_
              rotate_left
              ·intro hJ15
               refine two_ (i:=8) (j:=15) (Ni:=some 23) (Nj:=some 30) #[true,true,true,true,true,true,true,true,true,false,true,false,true,true,true,false,false,false,false] #[true,true,true,true,true,true,true,true,false,false,true,false,true,true,true,true,false,false,false] rfl rfl rfl rfl (two_of HT_.out (by kernel_rfl)) (by decide) (by decide) (fun K hK=>?_) (fun K hK=>?_)
               ·skip
                refine Kd.R_lit_step (Kd.int .u8) _ 5 ?hg (N:=23) ?hd (xs:=([(wrap64 (Int.tdiv a0 256)) % 256,(Int.tmod a0 256) % 256,((a2.size:Int)) % 256]:List Int)) (inner:=[.int .u8 ((wrap64 (Int.tdiv a0 256)) % 256),.int .u8 ((Int.tmod a0 256) % 256),.int .u8 (((a2.size:Int)) % 256)]) (ok:=fun _=>True) (okp:=fun _=>True) ?hr ?hp (fun _ hk=>hk) trivial (Below.refl _ _) (Nat.le_refl _) (by simp) ?_;(case hd=>rfl);(case hg=>rfl);(case hr=>exact Yn);(case hp=>exact Yo)
                intro v156 w31 ho32 hb hg_ hnew_
                clear hg_ hnew_
                (first|rw [← Ny155.out] at ho32|(simp only [Int.reduceToNat] at ho32;rw [← Ny155.out] at ho32))
                have HO157:=Aside0.mk (Kd.R_lower ho32 (below_size bH));replace HB:=Aside0.mk (below_step bH hb)
                clear hb ho32
                refine hK.out _ _ trivial (fun hHeld=>?_)
                clear hK K
                refine nM (N:=some 23) ?_
                exact norm_ Ye (hJ8 (v156) _ ⟨(rR HO157),bH⟩)
               ·skip
                refine Kd.R_make_step (Kd.int .u8) _ 5 (by rfl) (N:=30) rfl 22 _ _ rfl ji24 rfl rfl Try.underlying22 (.int .u8 0) 1 info5 rfl (by decide) Yy 0 (ok:=fun _=>True) (okp:=fun _=>True) rfl (fun _ hk=>hk) trivial (oD) (Nat.le_trans (Nat.mul_le_mul_right _ (oD:ji24.toNat ≤ 281474976710656)) Yy) (Below.refl _ _) (Nat.le_refl _) ?_
                intro v159 w31 ho32 hb hg_ hnew_
                clear hg_ hnew_
                (first|rw [← Ny158.out] at ho32|(simp only [Int.reduceToNat] at ho32;rw [← Ny158.out] at ho32))
                have HO160:=Aside0.mk (Kd.R_lower ho32 (below_size bH));replace HB:=Aside0.mk (below_step bH hb)
                clear hb ho32
                refine hK.out _ _ trivial (fun hHeld=>?_)
                clear hK K
                refine nM (N:=some 30) ?_
                exact norm_ Ye (hJ15 (v159) _ ⟨(rR HO160),bH⟩)
              ·skip
               rintro v159 w33 ⟨h0_,h1_⟩
               have n0_:Aside0 (Kd.R (Kd.int .u8) 5 w33 w.heap.size (fun _=>True) v159 y158):=⟨h0_⟩
               have n1_:Aside0 (Below w.heap.size w w33):=⟨h1_⟩
               clear HB
               clear h0_ h1_
               have HO160:=n0_
               have HB:=n1_
               clear n0_ n1_
               have hHeld:=trivial
               refine norm_ (a':=?_) ?_ ?_
               rotate_left
               ·simp only [putAll,Act.put,List.setIfInBounds_toArray,List.set_cons_zero,List.set_cons_succ]
                rfl
               refine two_ (i:=8) (j:=16) (Ni:=some 23) (Nj:=some 31) #[true,true,true,true,true,true,true,true,true,false,true,false,true,true,true,true,false,false,false] #[true,true,true,true,true,true,true,true,false,false,true,false,true,true,true,true,true,false,false] rfl rfl rfl rfl (two_of HT_.out (by kernel_rfl)) (by decide) (by decide) (fun K hK=>?_) (fun K hK=>?_)
               ·skip
                refine Kd.R_lit_step (Kd.int .u8) _ 5 ?hg (N:=23) ?hd (xs:=([(wrap64 (Int.tdiv a0 256)) % 256,(Int.tmod a0 256) % 256,((a2.size:Int)) % 256]:List Int)) (inner:=[.int .u8 ((wrap64 (Int.tdiv a0 256)) % 256),.int .u8 ((Int.tmod a0 256) % 256),.int .u8 (((a2.size:Int)) % 256)]) (ok:=fun _=>True) (okp:=fun _=>True) ?hr ?hp (fun _ hk=>hk) trivial (Below.refl _ _) (Nat.le_refl _) (by simp) ?_;(case hd=>rfl);(case hg=>rfl);(case hr=>exact Yn);(case hp=>exact Yo)
                intro v156 w34 ho35 hb hg_ hnew_
                clear hg_ hnew_
                (first|rw [← Ny155.out] at ho35|(simp only [Int.reduceToNat] at ho35;rw [← Ny155.out] at ho35))
                have HO157:=Aside0.mk (Kd.R_lower (Kd.R_new' ho35 (Kd.R_lt (rR HO160))) (below_size bH));replace HO160:=Aside0.mk (Kd.R_elder' (rR HO160) (Kd.R_base ho35) hb);replace HB:=Aside0.mk (below_step bH hb)
                clear hb ho35
                refine hK.out _ _ trivial (fun hHeld=>?_)
                clear hK K
                refine nM (N:=some 23) ?_
                exact norm_ Ye (hJ8_15 (v156,v159) _ ⟨Zq,Zp,bH⟩)
               ·skip
                have hcv34:=own_string (P:=Try.prog) Try.underlying22 Try.underlying5 Try.underlying9 (Kd.own_of_R HO160.out)
                refine value_ (w1:=?_) (v:=?_) (by rfl) rfl ?_ ?_
                rotate_left 2
                ·go_simp
                 constructor
                 ·rfl
                 ·rfl
                clear hcv34
                refine hK.out _ _ trivial (fun hHeld=>?_)
                clear hK K
                refine nM (N:=some 31) ?_
                exact norm_ Ye (hJ15_16 (v159) _ ⟨(rR HO160),bH⟩)
             ·skip
              rintro v156 w33 ⟨h0_,h1_⟩
              have n0_:Aside0 (Kd.R (Kd.int .u8) 5 w33 w.heap.size (fun _=>True) v156 y155):=⟨h0_⟩
              have n1_:Aside0 (Below w.heap.size w w33):=⟨h1_⟩
              clear HB
              clear h0_ h1_
              have HO157:=n0_
              have HB:=n1_
              clear n0_ n1_
              have hHeld:=trivial
              refine norm_ (a':=?_) ?_ ?_
              rotate_left
              ·simp only [putAll,Act.put,List.setIfInBounds_toArray,List.set_cons_zero,List.set_cons_succ]
               rfl
              refine two_ (i:=9) (j:=15) (Ni:=some 24) (Nj:=some 30) #[true,true,true,true,true,true,true,true,true,true,true,false,true,true,true,false,false,false,false] #[true,true,true,true,true,true,true,true,true,false,true,false,true,true,true,true,false,false,false] rfl rfl rfl rfl (two_of HT_.out (by kernel_rfl)) (by decide) (by decide) (fun K hK=>?_) (fun K hK=>?_)
              ·skip
               have hcv34:=own_string (P:=Try.prog) Try.underlying22 Try.underlying5 Try.underlying9 (Kd.own_of_R HO157.out)
               refine value_ (w1:=?_) (v:=?_) (by rfl) rfl ?_ ?_
               rotate_left 2
               ·go_simp
                constructor
                ·rfl
                ·rfl
               clear hcv34
               refine hK.out _ _ trivial (fun hHeld=>?_)
               clear hK K
               refine nM (N:=some 24) ?_
               refine pU (i:=11) (N:=some 26) #[true,true,true,true,true,true,true,true,true,true,true,true,true,true,true,false,false,false,false] (any_of HT_.out (by kernel_rfl)) ?_
               exact norm_ Ye (hJ8_9 (v156) _ ⟨(rR HO157),bH⟩)
              ·skip
               refine Kd.R_make_step (Kd.int .u8) _ 5 (by rfl) (N:=30) rfl 22 _ _ rfl ji24 rfl rfl Try.underlying22 (.int .u8 0) 1 info5 rfl (by decide) Yy 0 (ok:=fun _=>True) (okp:=fun _=>True) rfl (fun _ hk=>hk) trivial (oD) (Nat.le_trans (Nat.mul_le_mul_right _ (oD:ji24.toNat ≤ 281474976710656)) Yy) (Below.refl _ _) (Nat.le_refl _) ?_
               intro v159 w34 ho35 hb hg_ hnew_
               clear hg_ hnew_
               (first|rw [← Ny158.out] at ho35|(simp only [Int.reduceToNat] at ho35;rw [← Ny158.out] at ho35))
               have HO160:=Aside0.mk (Kd.R_lower (Kd.R_new' ho35 (Kd.R_lt (rR HO157))) (below_size bH));replace HO157:=Aside0.mk (Kd.R_elder' (rR HO157) (Kd.R_base ho35) hb);replace HB:=Aside0.mk (below_step bH hb)
               clear hb ho35
               refine hK.out _ _ trivial (fun hHeld=>?_)
               clear hK K
               refine nM (N:=some 30) ?_
               exact norm_ Ye (hJ8_15 (v156,v159) _ ⟨Zq,Zp,bH⟩)
            ·skip
             rintro v159 w34 ⟨h0_,h1_⟩
             have n0_:Aside0 (Kd.R (Kd.int .u8) 5 w34 w.heap.size (fun _=>True) v159 y158):=⟨h0_⟩
             have n1_:Aside0 (Below w.heap.size w w34):=⟨h1_⟩
             clear HB
             clear h0_ h1_
             have HO160:=n0_
             have HB:=n1_
             clear n0_ n1_
             have hHeld:=trivial
             refine norm_ (a':=?_) ?_ ?_
             rotate_left
             ·simp only [putAll,Act.put,List.setIfInBounds_toArray,List.set_cons_zero,List.set_cons_succ]
              rfl
             refine one_ (i:=8) (N:=some 23) #[true,true,true,true,true,true,true,true,true,false,true,false,true,true,true,true,true,false,false] rfl rfl (one_of HT_.out (by kernel_rfl)) (by decide) (fun K hK=>?_)
             refine Kd.R_lit_step (Kd.int .u8) _ 5 ?hg (N:=23) ?hd (xs:=([(wrap64 (Int.tdiv a0 256)) % 256,(Int.tmod a0 256) % 256,((a2.size:Int)) % 256]:List Int)) (inner:=[.int .u8 ((wrap64 (Int.tdiv a0 256)) % 256),.int .u8 ((Int.tmod a0 256) % 256),.int .u8 (((a2.size:Int)) % 256)]) (ok:=fun _=>True) (okp:=fun _=>True) ?hr ?hp (fun _ hk=>hk) trivial (Below.refl _ _) (Nat.le_refl _) (by simp) ?_;(case hd=>rfl);(case hg=>rfl);(case hr=>exact Yn);(case hp=>exact Yo)
             intro v156 w35 ho36 hb hg_ hnew_
             clear hg_ hnew_
             (first|rw [← Ny155.out] at ho36|(simp only [Int.reduceToNat] at ho36;rw [← Ny155.out] at ho36))
             have HO157:=Aside0.mk (Kd.R_lower (Kd.R_new' ho36 (Kd.R_lt (rR HO160))) (below_size bH));replace HO160:=Aside0.mk (Kd.R_elder' (rR HO160) (Kd.R_base ho36) hb);replace HB:=Aside0.mk (below_step bH hb)
             clear hb ho36
             refine hK.out _ _ trivial (fun hHeld=>?_)
             clear hK K
             refine nM (N:=some 23) ?_
             exact norm_ Ye (hJ8_15_16 (v156,v159) _ ⟨Zq,Zp,bH⟩)
           ·skip
            rintro ⟨v156,v159⟩ w35 ⟨h0_,h1_,h2_⟩
            have n0_:Aside0 (Kd.R (Kd.int .u8) 5 w35 w.heap.size (fun k_=>some k_ ≠ (v159:Value).ownBlock) v156 y155):=⟨h0_⟩
            have n1_:Aside0 (Kd.R (Kd.int .u8) 5 w35 w.heap.size (fun k_=>some k_ ≠ (v156:Value).ownBlock) v159 y158):=⟨h1_⟩
            have n2_:Aside0 (Below w.heap.size w w35):=⟨h2_⟩
            clear HB
            clear h0_ h1_ h2_
            have HO157:=n0_
            have HO160:=n1_
            have HB:=n2_
            clear n0_ n1_ n2_
            have hHeld:=trivial
            refine norm_ (a':=?_) ?_ ?_
            rotate_left
            ·simp only [putAll,Act.put,List.setIfInBounds_toArray,List.set_cons_zero,List.set_cons_succ]
             rfl
            refine two_ (i:=9) (j:=16) (Ni:=some 24) (Nj:=some 31) #[true,true,true,true,true,true,true,true,true,true,true,false,true,true,true,true,false,false,false] #[true,true,true,true,true,true,true,true,true,false,true,false,true,true,true,true,true,false,false] rfl rfl rfl rfl (two_of HT_.out (by kernel_rfl)) (by decide) (by decide) (fun K hK=>?_) (fun K hK=>?_)
            ·skip
             have hcv36:=own_string (P:=Try.prog) Try.underlying22 Try.underlying5 Try.underlying9 (Kd.own_of_R HO157.out)
             refine value_ (w1:=?_) (v:=?_) (by rfl) rfl ?_ ?_
             rotate_left 2
             ·go_simp
              constructor
              ·rfl
              ·rfl
             clear hcv36
             refine hK.out _ _ trivial (fun hHeld=>?_)
             clear hK K
             refine nM (N:=some 24) ?_
             refine pU (i:=11) (N:=some 26) #[true,true,true,true,true,true,true,true,true,true,true,true,true,true,true,true,false,false,false] (any_of HT_.out (by kernel_rfl)) ?_
             exact norm_ Ye (hJ8_9_15 (v156,v159) _ ⟨(rR HO157),(rR HO160),bH⟩)
            ·skip
             have hcv36:=own_string (P:=Try.prog) Try.underlying22 Try.underlying5 Try.underlying9 (Kd.own_of_R HO160.out)
             refine value_ (w1:=?_) (v:=?_) (by rfl) rfl ?_ ?_
             rotate_left 2
             ·go_simp
              constructor
              ·rfl
              ·rfl
             clear hcv36
             refine hK.out _ _ trivial (fun hHeld=>?_)
             clear hK K
             refine nM (N:=some 31) ?_
             exact norm_ Ye (hJ8_15_16 (v156,v159) _ ⟨(rR HO157),(rR HO160),bH⟩)
          ·skip
           rintro v156 w34 ⟨h0_,h1_⟩
           have n0_:Aside0 (Kd.R (Kd.int .u8) 5 w34 w.heap.size (fun _=>True) v156 y155):=⟨h0_⟩
           have n1_:Aside0 (Below w.heap.size w w34):=⟨h1_⟩
           clear HB
           clear h0_ h1_
           have HO157:=n0_
           have HB:=n1_
           clear n0_ n1_
           have hHeld:=trivial
           refine norm_ (a':=?_) ?_ ?_
           rotate_left
           ·simp only [putAll,Act.put,List.setIfInBounds_toArray,List.set_cons_zero,List.set_cons_succ]
            rfl
           refine one_ (i:=15) (N:=some 30) #[true,true,true,true,true,true,true,true,true,true,true,true,true,true,true,true,false,false,false] rfl rfl (one_of HT_.out (by kernel_rfl)) (by decide) (fun K hK=>?_)
           refine Kd.R_make_step (Kd.int .u8) _ 5 (by rfl) (N:=30) rfl 22 _ _ rfl ji24 rfl rfl Try.underlying22 (.int .u8 0) 1 info5 rfl (by decide) Yy 0 (ok:=fun _=>True) (okp:=fun _=>True) rfl (fun _ hk=>hk) trivial (oD) (Nat.le_trans (Nat.mul_le_mul_right _ (oD:ji24.toNat ≤ 281474976710656)) Yy) (Below.refl _ _) (Nat.le_refl _) ?_
           intro v159 w35 ho36 hb hg_ hnew_
           clear hg_ hnew_
           (first|rw [← Ny158.out] at ho36|(simp only [Int.reduceToNat] at ho36;rw [← Ny158.out] at ho36))
           have HO160:=Aside0.mk (Kd.R_lower (Kd.R_new' ho36 (Kd.R_lt (rR HO157))) (below_size bH));replace HO157:=Aside0.mk (Kd.R_elder' (rR HO157) (Kd.R_base ho36) hb);replace HB:=Aside0.mk (below_step bH hb)
           clear hb ho36
           refine hK.out _ _ trivial (fun hHeld=>?_)
           clear hK K
           refine nM (N:=some 30) ?_
           exact norm_ Ye (hJ8_9_15 (v156,v159) _ ⟨Zq,Zp,bH⟩)
         ·skip
          rintro ⟨v156,v159⟩ w36 ⟨h0_,h1_,h2_⟩
          have n0_:Aside0 (Kd.R (Kd.int .u8) 5 w36 w.heap.size (fun k_=>some k_ ≠ (v159:Value).ownBlock) v156 y155):=⟨h0_⟩
          have n1_:Aside0 (Kd.R (Kd.int .u8) 5 w36 w.heap.size (fun k_=>some k_ ≠ (v156:Value).ownBlock) v159 y158):=⟨h1_⟩
          have n2_:Aside0 (Below w.heap.size w w36):=⟨h2_⟩
          clear HB
          clear h0_ h1_ h2_
          have HO157:=n0_
          have HO160:=n1_
          have HB:=n2_
          clear n0_ n1_ n2_
          have hHeld:=trivial
          refine norm_ (a':=?_) ?_ ?_
          rotate_left
          ·simp only [putAll,Act.put,List.setIfInBounds_toArray,List.set_cons_zero,List.set_cons_succ]
           rfl
          refine one_ (i:=9) (N:=some 24) #[true,true,true,true,true,true,true,true,true,true,true,false,true,true,true,true,true,false,false] rfl rfl (one_of HT_.out (by kernel_rfl)) (by decide) (fun K hK=>?_)
          have hcv37:=own_string (P:=Try.prog) Try.underlying22 Try.underlying5 Try.underlying9 (Kd.own_of_R HO157.out)
          refine value_ (w1:=?_) (v:=?_) (by rfl) rfl ?_ ?_
          rotate_left 2
          ·go_simp
           constructor
           ·rfl
           ·rfl
          clear hcv37
          refine hK.out _ _ trivial (fun hHeld=>?_)
          clear hK K
          refine nM (N:=some 24) ?_
          refine pU (i:=11) (N:=some 26) #[true,true,true,true,true,true,true,true,true,true,true,true,true,true,true,true,true,false,false] (any_of HT_.out (by kernel_rfl)) ?_
          exact norm_ Ye (hJ8_9_15_16 (v156,v159) _ ⟨(rR HO157),(rR HO160),bH⟩)
        ·skip
         rintro ⟨v156,v159⟩ w36 ⟨h0_,h1_,h2_⟩
         have n0_:Aside0 (Kd.R (Kd.int .u8) 5 w36 w.heap.size (fun k_=>some k_ ≠ (v159:Value).ownBlock) v156 y155):=⟨h0_⟩
         have n1_:Aside0 (Kd.R (Kd.int .u8) 5 w36 w.heap.size (fun k_=>some k_ ≠ (v156:Value).ownBlock) v159 y158):=⟨h1_⟩
         have n2_:Aside0 (Below w.heap.size w w36):=⟨h2_⟩
         clear HB
         clear h0_ h1_ h2_
         have HO157:=n0_
         have HO160:=n1_
         have HB:=n2_
         clear n0_ n1_ n2_
         have hHeld:=trivial
         refine norm_ (a':=?_) ?_ ?_
         rotate_left
         ·simp only [putAll,Act.put,List.setIfInBounds_toArray,List.set_cons_zero,List.set_cons_succ]
          rfl
         refine one_ (i:=16) (N:=some 31) #[true,true,true,true,true,true,true,true,true,true,true,true,true,true,true,true,true,false,false] rfl rfl (one_of HT_.out (by kernel_rfl)) (by decide) (fun K hK=>?_)
         have hcv37:=own_string (P:=Try.prog) Try.underlying22 Try.underlying5 Try.underlying9 (Kd.own_of_R HO160.out)
         refine value_ (w1:=?_) (v:=?_) (by rfl) rfl ?_ ?_
         rotate_left 2
         ·go_simp
          constructor
          ·rfl
          ·rfl
         clear hcv37
         refine hK.out _ _ trivial (fun hHeld=>?_)
         clear hK K
         refine nM (N:=some 31) ?_
         exact norm_ Ye (hJ8_9_15_16 (v156,v159) _ ⟨(rR HO157),(rR HO160),bH⟩)
       rintro ⟨v156,v159⟩ w37 ⟨h0_,h1_,h2_⟩
       have n0_:Aside0 (Kd.R (Kd.int .u8) 5 w37 w.heap.size (fun k_=>some k_ ≠ (v159:Value).ownBlock) v156 y155):=⟨h0_⟩
       have n1_:Aside0 (Kd.R (Kd.int .u8) 5 w37 w.heap.size (fun k_=>some k_ ≠ (v156:Value).ownBlock) v159 y158):=⟨h1_⟩
       have n2_:Aside0 (Below w.heap.size w w37):=⟨h2_⟩
       clear HB
       clear h0_ h1_ h2_
       have HO157:=n0_
       have HO160:=n1_
       have HB:=n2_
       clear n0_ n1_ n2_
       have hHeld:=trivial
       refine norm_ (a':=?_) ?_ ?_
       rotate_left
       ·simp only [putAll,Act.put,List.setIfInBounds_toArray,List.set_cons_zero,List.set_cons_succ]
        rfl
       refine pU (i:=17) (N:=some 32) #[true,true,true,true,true,true,true,true,true,true,true,true,true,true,true,true,true,true,false] (any_of HT_.out (by kernel_rfl)) ?_
       refine pU (i:=18) (N:=some 8) #[true,true,true,true,true,true,true,true,true,true,true,true,true,true,true,true,true,true,true] (any_of HT_.out (by kernel_rfl)) ?_
       refine done_ (done_of HT_.out (by kernel_rfl)) ?_
       try go_wp2_with (first|((with_reducible refine gate_callee (f:=105) rfl ?_);refine goesL_ (some 34) rfl rfl Try.func105 (by kernel_rfl) rfl #[.string (((strOfNums y155) ++ a2) ++ (strOfNums y158))] rfl Ya ?_;(with_reducible refine (spec_l10Sum.calls k (((strOfNums y155) ++ a2) ++ (strOfNums y158)) t161 _ A28.out).mono ?_);rintro e w' ⟨rfl,⟨nd,rfl⟩⟩;refine ⟨_,rfl,?_⟩)|((with_reducible refine gate_dst (N:=42) rfl ?_);refine Kd.R_lit (Kd.int .u8) _ 5 ?hg (N:=42) ?hd (xs:=([(wrap64 (Int.tdiv t161 256)) % 256,(Int.tmod t161 256) % 256,1]:List Int)) (inner:=[.int .u8 ((wrap64 (Int.tdiv t161 256)) % 256),.int .u8 ((Int.tmod t161 256) % 256),.int .u8 1]) (ok:=fun _=>True) (okp:=fun _=>True) ?hr ?hp (fun _ hk=>hk) trivial (Below.refl _ _) (Nat.le_refl _) (by simp) ?_;(case hd=>rfl);(case hg=>rfl);(case hr=>exact Yn);(case hp=>exact (Reps.one (show Kd.M (Kd.int .u8) _ _ _ ((wrap64 (Int.tdiv t161 256)) % 256) [.int .u8 ((wrap64 (Int.tdiv t161 256)) % 256)] from rfl) (Reps.one (show Kd.M (Kd.int .u8) _ _ _ ((Int.tmod t161 256) % 256) [.int .u8 ((Int.tmod t161 256) % 256)] from rfl) (Reps.one (show Kd.M (Kd.int .u8) _ _ _ 1 [.int .u8 1] from rfl) (Reps.none _ _)))));intro v163 w38 ho39 hb hg_ hnew_;clear hg_ hnew_;(first|rw [← Ny162.out] at ho39|(simp only [Int.reduceToNat] at ho39;rw [← Ny162.out] at ho39));have HO164:=Aside0.mk (Kd.R_lower (Kd.R_new' (Kd.R_new' ho39 (Kd.R_lt (rR HO157))) (Kd.R_lt (rR HO160))) (below_size bH));replace HO157:=Aside0.mk (Kd.R_elder' (rR HO157) (Kd.R_base ho39) hb);replace HO160:=Aside0.mk (Kd.R_elder' (rR HO160) (Kd.R_base ho39) hb);replace HB:=Aside0.mk (below_step bH hb);clear hb ho39;have hcv40:=own_string (P:=Try.prog) Try.underlying22 Try.underlying5 Try.underlying9 (Kd.own_of_R HO164.out)))
       go_ret
       exact ⟨by first|rfl|(simp [errW_none,errW_some] <;> rfl)|(simp only [← hji24];first|rfl|(simp [errW_none,errW_some] <;> rfl))|(simp [*,errW_none,errW_some] <;> rfl),bH⟩
      ·rw [if_neg c29] at H
       exact absurd H (by simp)
     ·rw [if_neg c27] at H
      exact absurd H (by simp)
    ·rw [if_neg c26] at H
     exact absurd H (by simp)
   ·rw [if_neg c25] at H
    exact absurd H (by simp)
  ·rw [if_neg c23] at H
   exact absurd H (by simp)

end Go.Proofs.Ytmgkflkfoccgkab.QFnDisk
