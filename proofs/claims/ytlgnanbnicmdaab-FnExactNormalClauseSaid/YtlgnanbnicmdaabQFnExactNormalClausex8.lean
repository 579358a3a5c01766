-- Written by this session's own program (wip/x/xprint.py, over the kit's printer); Lean checks it.
import Derived.Test.YtlgnanbnicmdaabQFnExactNormalClausex0
import Derived.Test.YtlgnanbnicmdaabQFnExactNormalClausex3
import Derived.Test.YtlgnanbnicmdaabQFnExactNormalClausex4
import Derived.Test.YtlgnanbnicmdaabQFnExactNormalClausex7
namespace Go.Proofs.Ytlgnanbnicmdaab.QFnExactNormalClause
open Go.RowKit Go.Proofs.YtlgnanbnicmdaabW.PrintWords Go.Proofs.YtlgnanbnicmdaabW.PrintLast Go.Proofs.YtlgnanbnicmdaabW.PrintMore
attribute [local go_sem] max2_int min2_int max_two min_two max_three min_three max_four min_four   -- for this text's walks alone
set_option linter.unusedVariables false
set_option linter.unusedSimpArgs false

/-! ### spec_l4Rename: function 117, by a walk of this session's own -/
def flatT:List S65 → List (List Int)
  | []=>[]
  | x :: t=>x.f1 :: x.f2 :: flatT t
theorem flat_snoc (l:List S65) (x:S65):flatT (l ++ [x]) = flatT l ++ [x.f1,x.f2]:=by
  induction l with
  | nil=>rfl
  | cons y t ih=>simp only [List.cons_append,flatT,ih]
theorem flat_len (l:List S65):(flatT l).length = 2 * l.length:=by
  induction l with
  | nil=>rfl
  | cons y t ih=>simp only [flatT,List.length_cons,ih];omega
theorem reps2 {α:Type} {R:α → List Value → Prop} {x y:α} {u v:Value} (h1:R x [u]) (h2:R y [v]):Reps R 1 [x,y] [u,v]:=by
  refine ⟨rfl,fun j p hj=>?_⟩
  match j with
  | 0=>cases hj;exact h1
  | 1=>cases hj;exact h2
  | j + 2=>simp at hj
theorem fk_slice {α:Type} {d:Kd α} {e c:Nat} {W:World} {ok:Nat → Prop} {A:Option Addr} {l:List α} (hl:l.length ≤ c) (hf:Kd.F d W ok A l.length l):Kd.FK (Kd.slice e d) W ok l [.slice A l.length c]:=fun W' hW=>⟨A,c,rfl,hl,hf W' hW⟩
def spec_l4Terms.f (l:List S65):Option (List (List Int)):=if l.length ≤ 1048576 then some (flatT l) else none
set_option maxHeartbeats 8000000 in
set_option maxRecDepth 1000000 in
theorem spec_l4Terms.calls (A0:Option Addr) (c0:Nat) (l0:List S65) (r:List (List Int)) (w:World) (hr0:Kd.C k65 w A0 l0.length l0) (hc0:l0.length ≤ c0) (h:spec_l4Terms.f l0 = some r) :
    Calls Try.prog 136 #[.slice A0 l0.length c0] w fun e w'=>∃ v0_:Value,e = .returned v0_ ∧ Kd.N (Kd.slice 3 (Kd.int .i64)) 22 w' w.heap.size (fun _=>True) v0_ r ∧ Below w.heap.size w w':=by
  unfold spec_l4Terms.f at h
  split at h
  rotate_left
  · cases h
  rename_i hn
  obtain rfl:=Option.some.inj h
  have H0:=Aside0.mk hr0
  clear h hr0
  go_enter Try.func136,Try.ntmps136
  go_wp2
  go_loopw [3,8] (fun v3 v8 wr=>∃ j:Nat,j ≤ l0.length ∧ v8 = .int .i64 j ∧ Hid (Kd.N (Kd.slice 3 (Kd.int .i64)) 22 wr w.heap.size (fun _=>True) v3 (flatT (l0.take j))) ∧ Hid (Below w.heap.size w wr)) (fun _ v8 _=>l0.length - (intOf v8).toNat)
  case atStart=>exact ⟨0,Nat.zero_le _,rfl,Kd.N_nil _ _ _ _ _,Below.refl _ _⟩
  case round =>
    obtain ⟨j,hj,rfl,hN,hB⟩:=hrel
    unfold Hid at hN hB
    by_cases hp:j < l0.length
    · obtain ⟨ad,L1,e1,L2,e2,eA,q0,q1,q2,z1,i1,z2,i2⟩:=at_T65 H0.out (j:Int) (by omega) (by omega)
      have hrd:rd_T65 l0 (j:Int) = l0[j]:=by unfold rd_T65;simp [List.getD_eq_getElem?_getD,hp]
      rw [Int.toNat_natCast] at q0 q1 q2
      rw [hrd] at q0 q1 q2 z1 i1 z2 i2
      subst eA
      have htk:l0.take (j + 1) = l0.take j ++ [l0[j]]:=by rw [List.take_succ_eq_append_getElem hp]
      generalize l0[j] = x at htk q0 q1 q2 z1 i1 z2 i2
      replace q0:=(hB.cell (World.block_lt_of_cell? w _ q0)).trans q0
      replace q1:=(hB.cell (World.block_lt_of_cell? w _ q1)).trans q1
      replace q2:=(hB.cell (World.block_lt_of_cell? w _ q2)).trans q2
      have I1:=Aside0.mk (fk_slice (e:=3) z1 (Kd.C_F (Kd.heap_int _) i1))
      have I2:=Aside0.mk (fk_slice (e:=3) z2 (Kd.C_F (Kd.heap_int _) i2))
      have HTK:=Aside0.mk htk
      have HN:=Aside0.mk hN
      have HB:=Aside0.mk hB
      clear hN hB i1 i2 htk hrd z1 z2
      go_upto_region 5 with fail
      have HX:=Aside0.mk (heap_alloc_new wr (.cells #[.bool x.f0,.slice L1 x.f1.length e1,.slice L2 x.f2.length e2] 65))
      have HN:=Aside0.mk (Kd.N_alloc HN.out (.cells #[.bool x.f0,.slice L1 x.f1.length e1,.slice L2 x.f2.length e2] 65))
      have HB:=Aside0.mk (Below.alloc HB.out HB.out.size (.cells #[.bool x.f0,.slice L1 x.f1.length e1,.slice L2 x.f2.length e2] 65))
      clear q0 q1 q2
      obtain ⟨g,hg⟩:∃ g,g = wr.heap.size:=⟨_,rfl⟩
      generalize wr.alloc (.cells #[.bool x.f0,.slice L1 x.f1.length e1,.slice L2 x.f2.length e2] 65) = W1 at HX HN HB ⊢
      rw [← hg] at HX ⊢
      clear hg
      have b1:W1.cell? ⟨g,1,none⟩ = some (.slice L1 x.f1.length e1):=(blk_cell HX.out 1).trans rfl
      have b2:W1.cell? ⟨g,2,none⟩ = some (.slice L2 x.f2.length e2):=(blk_cell HX.out 2).trans rfl
      go_wp2_with (first
        | ((with_reducible refine gate_dst (N:=17) rfl ?_);refine Kd.N_lit (Kd.slice 3 (Kd.int .i64)) (w0:=w) w.heap.size 22 ?hg (N':=17) ?hd (xs:=[x.f1,x.f2]) (inner:=[.slice L1 x.f1.length e1,.slice L2 x.f2.length e2]) (ok:=fun k_=>k_ < w.heap.size ∨ W1.heap.size ≤ k_) (okp:=fun k_=>k_ < w.heap.size) ?hr (reps2 (Kd.FK_below I1.out HB.out) (Kd.FK_below I2.out HB.out)) (fun k_ h=>.inl h) (.inr (Nat.le_refl _)) HB.out HB.out.size (by simp) ?_;(case hd=>rfl);(case hg=>rfl);(case hr=>first|(go_simp;done)|(go_simp;rfl));intro vl Wl hl_ hb hg_ hat_;have HL:=Aside0.mk hl_;have HBl:=Aside0.mk hb;have HN2:=Aside0.mk (Kd.N_grown HN.out hg_ (fun _ _=>by simp));have HNL:=Aside0.mk (Kd.N_lt HN.out);clear hl_ hb hg_ hat_ HN HB;obtain ⟨Al,cl,rfl⟩:=Kd.N_slice HL.out)
        | ((with_reducible refine gate_builtin (b:=.append) (xs:=#[.tmp 12,.tmp 17]) rfl ?_);at_builtin;refine Kd.N_append_rows (Kd.slice 3 (Kd.int .i64)) (w0:=w) w.heap.size rfl (.tmp 12) (.tmp 17) 105 22 (.slice none 0 0) 24 rfl Try.underlying105 info22 rfl (by decide) (by decide) _ (flatT (l0.take j)) [x.f1,x.f2] Al 2 cl (fun _=>True) (fun k_=>k_ < w.heap.size ∨ W1.heap.size ≤ k_) rfl rfl HN2.out (Kd.N_F HL.out) (fun k_ hk=>⟨trivial,fun q_=>by have h1:=Kd.N_base HN2.out k_ q_.symm;have h2:=HNL.out k_ q_.symm;omega⟩) (fun _ _=>trivial) HBl.out HBl.out.size ?aL ?_;(case aL=>rw [flat_len,List.length_take];omega);intro v1 w1 ho hb hg_ hat_;have HO:=Aside0.mk ho;have HBo:=Aside0.mk hb;clear ho hb hg_ hat_))
      go_roundw
      case rel=>exact ⟨j + 1,by omega,rfl,by have:=HO.out;unfold Hid;rw [HTK.out,flat_snoc];exact this,HBo.out⟩
      case measure=>simp [intOf];omega
    · obtain rfl:j = l0.length:=by omega
      rw [List.take_length] at hN
      have HN:=Aside0.mk hN
      have HB:=Aside0.mk hB
      clear hN hB
      go_wp2
      go_ret
      exact ⟨_,rfl,HN.out,HB.out⟩
/-- A clause with other terms. -/
def zipN (l:List S65) (t:List (List Int)):Nat → List S65
  | 0=>[]
  | n + 1=>zipN l t n ++ [⟨(rd_T65 l (n:Int)).f0,rd_L2 t (2 * n:Int),rd_L2 t (2 * n + 1:Int)⟩]
theorem zipN_len (l:List S65) (t:List (List Int)):∀ n,(zipN l t n).length = n:=by
  intro n
  induction n with
  | zero=>rfl
  | succ n ih=>simp [zipN,ih]
theorem w64_ {x:Int} (h0:-9223372036854775808 ≤ x) (h1:x ≤ 9223372036854775807):wrap64 x = x:=by
  unfold wrap64;omega
def spec_l4Rename.f (k:Nat) (l:List S65):Option (List S65):=if l.length ≤ 1048576 then (spec_l2Rename.f k (flatT l)).bind fun t=>if t.length = 2 * l.length then some (zipN l t l.length) else none else none
theorem spec_l4Rename.mono (y0:List S65) (k:Nat):LeO (spec_l4Rename.f k y0) (spec_l4Rename.f (k + 1) y0):=by
  intro r h
  unfold spec_l4Rename.f at h ⊢
  split at h
  rotate_left
  · cases h
  rename_i g
  rw [if_pos g]
  obtain ⟨t,ht,h⟩:=Option.bind_eq_some_iff.1 h
  rw [spec_l2Rename.mono _ k t ht,Option.bind_some]
  exact h
set_option maxHeartbeats 8000000 in
set_option maxRecDepth 1000000 in
theorem spec_l4Rename.calls (k:Nat) (A0:Option Addr) (c0:Nat) (l0:List S65) (r:List S65) (w:World) (hr0:Kd.C k65 w A0 l0.length l0) (hc0:l0.length ≤ c0) (h:spec_l4Rename.f k l0 = some r) :
    Calls Try.prog 117 #[.slice A0 l0.length c0] w fun e w'=>∃ v0_:Value,e = .returned v0_ ∧ Kd.S k65 65 w' w.heap.size (fun _=>True) v0_ r ∧ Below w.heap.size w w':=by
  unfold spec_l4Rename.f at h
  split at h
  rotate_left
  · cases h
  rename_i hn
  obtain ⟨t,ht,h⟩:=Option.bind_eq_some_iff.1 h
  split at h
  rotate_left
  · cases h
  rename_i htl
  obtain rfl:=Option.some.inj h
  have H0:=Aside0.mk hr0
  have HT0:=Aside0.mk ht
  have h1:=spec_l4Terms.calls A0 c0 l0 (flatT l0) w hr0 hc0 (by unfold spec_l4Terms.f;rw [if_pos hn])
  clear h hr0 ht
  go_enter Try.func117,Try.ntmps117
  go_wp2_with (go_at_call 136;refine h1.mono ?_)
  first|rintro e W1 v rfl hr hd|rintro e W1 ⟨v,rfl,hr,hd⟩
  obtain ⟨A1,c1,rfl⟩:=Kd.N_slice hr
  have h2:=spec_l2Rename.calls k A1 c1 (flatT l0) t W1 (Kd.N_reads' hr).2.2 (Kd.N_reads' hr).2.1 HT0.out
  have HB:=Aside0.mk hd
  clear h1 hr hd
  go_wp2_with (go_at_call 135;refine h2.mono ?_)
  first|rintro e W2 v rfl hr hd|rintro e W2 ⟨v,rfl,hr,hd⟩
  obtain ⟨AT,cT,rfl⟩:=Kd.S_slice hr
  obtain ⟨f,hf⟩:=hr
  have HT:=Aside0.mk (Kd.R_mono (Kd.R_bound (Kd.R_lower hf HB.out.size)) (ok':=fun k_=>k_ < W2.heap.size) (fun k_ h=>h.2.2.1))
  have HB:=Aside0.mk (below_step HB.out hd)
  clear h2 hf hd
  go_wp2
  go_loopw [4,12] (fun v4 v12 wr=>∃ j:Nat,j ≤ l0.length ∧ v12 = .int .i64 j ∧ Hid (Kd.S k65 65 wr w.heap.size (fun k_=>W2.heap.size ≤ k_ ∨ f k_ < 2 * j) v4 (zipN l0 t j)) ∧ Hid ((Kd.tag f (Kd.slice 3 (Kd.int .i64))).R 22 wr w.heap.size (fun k_=>k_ < W2.heap.size) (.slice AT t.length cT) t.zipIdx) ∧ Hid (Below w.heap.size w wr) ∧ Hid (W2.heap.size ≤ wr.heap.size)) (fun _ v12 _=>l0.length - (intOf v12).toNat)
  case atStart=>exact ⟨0,Nat.zero_le _,rfl,Kd.S_nil _ _ _ _ _,HT.out,HB.out,Nat.le_refl _⟩
  case round =>
    clear HT HB
    obtain ⟨j,hj,rfl,hO,hT,hB,hSZ⟩:=hrel
    unfold Hid at hO hT hB hSZ
    by_cases hp:j < l0.length
    · obtain ⟨ad,L1,e1,L2,e2,eA,q0,q1,q2,z1,i1,z2,i2⟩:=at_T65 H0.out (j:Int) (by omega) (by omega)
      rw [Int.toNat_natCast] at q0 q1 q2
      subst eA
      have hzip:zipN l0 t (j + 1) = zipN l0 t j ++ [⟨(rd_T65 l0 (j:Int)).f0,rd_L2 t (2 * j:Int),rd_L2 t (2 * j + 1:Int)⟩]:=rfl
      generalize rd_T65 l0 (j:Int) = x at hzip q0 q1 q2 z1 i1 z2 i2
      replace q0:=(hB.cell (World.block_lt_of_cell? w _ q0)).trans q0
      replace q1:=(hB.cell (World.block_lt_of_cell? w _ q1)).trans q1
      replace q2:=(hB.cell (World.block_lt_of_cell? w _ q2)).trans q2
      obtain ⟨gT,capT,eT,_,hgTl,csT,hcT⟩:=Kd.R_form hT (by rw [List.length_zipIdx];omega)
      rw [List.length_zipIdx] at eT
      have HNT:=Aside0.mk (Kd.S_ne hO hcT (by decide):some gT ≠ u4.ownBlock)
      have HNG:Aside0 (some wr.heap.size ≠ u4.ownBlock):=⟨fun q_=>Nat.lt_irrefl _ (Kd.S_lt hO _ q_.symm)⟩
      clear hgTl hcT
      injection eT with eT _ eT2
      subst eT eT2
      obtain ⟨ca,hcla,hMa,hcca,_⟩:=Kd.R_elem hT ([],0) (2 * j:Int) (by omega) (by omega)
      obtain ⟨cb,hclb,hMb,hccb,_⟩:=Kd.R_elem hT ([],0) (2 * j + 1:Int) (by omega) (by omega)
      have za:t.zipIdx.getD (2 * (j:Int)).toNat ([],0) = (rd_L2 t (2 * j:Int),2 * j):=by
        have h9:(2 * (j:Int)).toNat = 2 * j:=by omega
        unfold rd_L2
        rw [h9,List.getD_eq_getElem?_getD,List.getElem?_zipIdx,List.getD_eq_getElem?_getD,List.getElem?_eq_getElem (by omega)]
        simp
      have zb:t.zipIdx.getD (2 * (j:Int) + 1).toNat ([],0) = (rd_L2 t (2 * j + 1:Int),2 * j + 1):=by
        have h9:(2 * (j:Int) + 1).toNat = 2 * j + 1:=by omega
        unfold rd_L2
        rw [h9,List.getD_eq_getElem?_getD,List.getElem?_zipIdx,List.getD_eq_getElem?_getD,List.getElem?_eq_getElem (by omega)]
        simp
      rw [za] at hMa
      rw [zb] at hMb
      obtain ⟨va,rfl,ra⟩:=hMa
      obtain ⟨vb,rfl,rb⟩:=hMb
      have ta:wr.cell? ⟨gT,2 * j,none⟩ = some va:=by
        have:=hcca 0 _ rfl
        rw [show (2 * (j:Int)).toNat * (Kd.tag f (Kd.slice 3 (Kd.int .i64))).sz + 0 = 2 * j by show (2 * (j:Int)).toNat * 1 + 0 = 2 * j;omega] at this
        exact this
      have tb:wr.cell? ⟨gT,2 * j + 1,none⟩ = some vb:=by
        have:=hccb 0 _ rfl
        rw [show (2 * (j:Int) + 1).toNat * (Kd.tag f (Kd.slice 3 (Kd.int .i64))).sz + 0 = 2 * j + 1 by show (2 * (j:Int) + 1).toNat * 1 + 0 = 2 * j + 1;omega] at this
        exact this
      have RA:=Aside0.mk (show (Kd.int .i64).R 3 wr w.heap.size (fun k_=>(k_ < W2.heap.size ∧ k_ ≠ gT) ∧ f k_ = 2 * j) va (rd_L2 t (2 * j:Int)) from ra)
      have RB:=Aside0.mk (show (Kd.int .i64).R 3 wr w.heap.size (fun k_=>(k_ < W2.heap.size ∧ k_ ≠ gT) ∧ f k_ = 2 * j + 1) vb (rd_L2 t (2 * j + 1:Int)) from rb)
      clear hcca hccb ra rb
      obtain ⟨Aa,ca_,rfl⟩:=Kd.R_slice RA.out
      obtain ⟨Ab,cb_,rfl⟩:=Kd.R_slice RB.out
      generalize rd_L2 t (2 * j:Int) = ya at hzip RA ta ⊢
      generalize rd_L2 t (2 * j + 1:Int) = yb at hzip RB tb ⊢
      have HZ:=Aside0.mk hzip
      have HO:=Aside0.mk hO
      have HT:=Aside0.mk hT
      have HB:=Aside0.mk hB
      clear hzip hO hT hB i1 i2 z1 z2
      go_upto_region 6 with fail
      have HX:=Aside0.mk (heap_alloc_new wr (.cells #[.bool x.f0,.slice L1 x.f1.length e1,.slice L2 x.f2.length e2] 65))
      have HO:=Aside0.mk (Kd.S_alloc HO.out (.cells #[.bool x.f0,.slice L1 x.f1.length e1,.slice L2 x.f2.length e2] 65))
      have HT:=Aside0.mk (Kd.R_alloc HT.out (.cells #[.bool x.f0,.slice L1 x.f1.length e1,.slice L2 x.f2.length e2] 65))
      have RA:=Aside0.mk (Kd.R_alloc RA.out (.cells #[.bool x.f0,.slice L1 x.f1.length e1,.slice L2 x.f2.length e2] 65))
      have RB:=Aside0.mk (Kd.R_alloc RB.out (.cells #[.bool x.f0,.slice L1 x.f1.length e1,.slice L2 x.f2.length e2] 65))
      have hbl:=below_alloc (Below.refl wr.heap.size wr) (.cells #[.bool x.f0,.slice L1 x.f1.length e1,.slice L2 x.f2.length e2] 65)
      replace ta:=(hbl.cell (World.block_lt_of_cell? wr _ ta)).trans ta
      replace tb:=(hbl.cell (World.block_lt_of_cell? wr _ tb)).trans tb
      have HB:=Aside0.mk (Below.alloc HB.out HB.out.size (.cells #[.bool x.f0,.slice L1 x.f1.length e1,.slice L2 x.f2.length e2] 65))
      clear q0 q1 q2
      obtain ⟨g,hg⟩:∃ g,g = wr.heap.size:=⟨_,rfl⟩
      have HSZ:=Aside0.mk (Nat.le_trans hSZ hbl.size)
      clear hbl
      generalize wr.alloc (.cells #[.bool x.f0,.slice L1 x.f1.length e1,.slice L2 x.f2.length e2] 65) = W3 at HX HO HT RA RB ta tb HB HSZ ⊢
      rw [← hg] at HX HNG ⊢
      clear hg
      have b0:W3.cell? ⟨g,0,none⟩ = some (.bool x.f0):=(blk_cell HX.out 0).trans rfl
      have hjb:j < 1048576:=by omega
      have hw1:wrap64 (2 * (j:Int)) = 2 * (j:Int):=w64_ (by omega) (by omega)
      have hw2:wrap64 (2 * (j:Int) + 1) = 2 * (j:Int) + 1:=w64_ (by omega) (by omega)
      have hm1:(2 * (j:Int)).toNat = 2 * j:=by omega
      have hm2:(2 * (j:Int) + 1).toNat = 2 * j + 1:=by omega
      have hm3:(0 ≤ 2 * (j:Int)) = True:=eq_true (by omega)
      have hm4:(0 ≤ 2 * (j:Int) + 1) = True:=eq_true (by omega)
      have hm5:(2 * (j:Int) < 2 * (l0.length:Int)) = True:=eq_true (by omega)
      have hm6:(2 * (j:Int) + 1 < 2 * (l0.length:Int)) = True:=eq_true (by omega)
      have hd0:Below W3.heap.size W3 W3.drew:=below_drew1 (Below.refl _ _)
      replace ta:=(hd0.cell (World.block_lt_of_cell? W3 _ ta)).trans ta
      replace tb:=(hd0.cell (World.block_lt_of_cell? W3 _ tb)).trans tb
      replace b0:=(hd0.cell (World.block_lt_of_cell? W3 _ b0)).trans b0
      have HO:=Aside0.mk (Kd.S_drew HO.out)
      have HT:=Aside0.mk (Kd.R_drew HT.out)
      have RA:=Aside0.mk (Kd.R_drew RA.out)
      have RB:=Aside0.mk (Kd.R_drew RB.out)
      have HB:=Aside0.mk (below_drew1 HB.out)
      have HSZ:=Aside0.mk (Nat.le_trans HSZ.out hd0.size)
      clear hd0
      have TA:=Aside0.mk ta
      have TB:=Aside0.mk tb
      have B0:=Aside0.mk b0
      refine start_ (n:=18) (S:=fun w'=>w'.cell? ⟨g,0,none⟩ = some (.bool x.f0) ∧ w'.cell? ⟨gT,2 * j,none⟩ = some (.slice Aa ya.length ca_) ∧ w'.cell? ⟨gT,2 * j + 1,none⟩ = some (.slice Ab yb.length cb_)) (ds:=[]) #[false,false,false,false,false,false,false,false,false,false,false,false,false,false,false,false,false,false] (by kernel_rfl) rfl rfl ⟨b0,ta,tb⟩ (fun hHeld=>?_)
      clear ta tb b0 HX
      generalize W3.drew = W4 at HO HT RA RB HB HSZ TA TB B0 hHeld ⊢
      refine pure_ (i:=0) (N:=(some 17)) (v:=?_) (a':=?_) #[true,false,false,false,false,false,false,false,false,false,false,false,false,false,false,false,false,false] rfl rfl (by kernel_rfl) (fun _ _ _ h=>h) (Or.inl ⟨by rfl,?_⟩) ?_ ?_
      rotate_left
      · intro w'
        go_simp
        with_reducible rfl
      rotate_left
      · simp only [Act.put,List.setIfInBounds_toArray,List.set_cons_zero,List.set_cons_succ,i64_w,i32_w]
        rfl
      refine pure_ (i:=1) (N:=(some 18)) (v:=?_) (a':=?_) #[true,true,false,false,false,false,false,false,false,false,false,false,false,false,false,false,false,false] rfl rfl (by kernel_rfl) (fun _ _ _ h=>h) (Or.inl ⟨by rfl,?_⟩) ?_ ?_
      rotate_left
      · intro w'
        go_simp
        with_reducible rfl
      rotate_left
      · simp only [Act.put,List.setIfInBounds_toArray,List.set_cons_zero,List.set_cons_succ,i64_w,i32_w]
        rfl
      refine take_ (i:=2) (N:=(some 19)) (v:=?_) (a':=?_) #[true,true,true,false,false,false,false,false,false,false,false,false,false,false,false,false,false,false] rfl rfl (by kernel_rfl) (fun _ _ _ h=>h) (Or.inl ⟨by rfl,?_⟩) hHeld ?_ ?_
      rotate_left
      · intro w' ⟨s0,s1,s2⟩
        go_simp
        with_reducible rfl
      rotate_left
      · simp only [Act.put,List.setIfInBounds_toArray,List.set_cons_zero,List.set_cons_succ,i64_w,i32_w]
        rfl
      refine pure_ (i:=3) (N:=(some 20)) (v:=?_) (a':=?_) #[true,true,true,true,false,false,false,false,false,false,false,false,false,false,false,false,false,false] rfl rfl (by kernel_rfl) (fun _ _ _ h=>h) (Or.inl ⟨by rfl,?_⟩) ?_ ?_
      rotate_left
      · intro w'
        go_simp
        with_reducible rfl
      rotate_left
      · simp only [Act.put,List.setIfInBounds_toArray,List.set_cons_zero,List.set_cons_succ,i64_w,i32_w]
        rfl
      refine pure_ (i:=4) (N:=(some 21)) (v:=?_) (a':=?_) #[true,true,true,true,true,false,false,false,false,false,false,false,false,false,false,false,false,false] rfl rfl (by kernel_rfl) (fun _ _ _ h=>h) (Or.inl ⟨by rfl,?_⟩) ?_ ?_
      rotate_left
      · intro w'
        go_simp
        with_reducible rfl
      rotate_left
      · simp only [Act.put,List.setIfInBounds_toArray,List.set_cons_zero,List.set_cons_succ,i64_w,i32_w]
        rfl
      refine pure_ (i:=5) (N:=(some 22)) (v:=?_) (a':=?_) #[true,true,true,true,true,true,false,false,false,false,false,false,false,false,false,false,false,false] rfl rfl (by kernel_rfl) (fun _ _ _ h=>h) (Or.inl ⟨by rfl,?_⟩) ?_ ?_
      rotate_left
      · intro w'
        go_simp
        with_reducible rfl
      rotate_left
      · simp only [Act.put,List.setIfInBounds_toArray,List.set_cons_zero,List.set_cons_succ,i64_w,i32_w]
        rfl
      refine pure_ (i:=6) (N:=(some 23)) (v:=?_) (a':=?_) #[true,true,true,true,true,true,true,false,false,false,false,false,false,false,false,false,false,false] rfl rfl (by kernel_rfl) (fun _ _ _ h=>h) (Or.inl ⟨by rfl,?_⟩) ?_ ?_
      rotate_left
      · intro w'
        go_simp
        with_reducible rfl
      rotate_left
      · simp only [Act.put,List.setIfInBounds_toArray,List.set_cons_zero,List.set_cons_succ,i64_w,i32_w]
        rfl
      refine take_ (i:=7) (N:=(some 24)) (v:=?_) (a':=?_) #[true,true,true,true,true,true,true,true,false,false,false,false,false,false,false,false,false,false] rfl rfl (by kernel_rfl) (fun _ _ _ h=>h) (Or.inl ⟨by rfl,?_⟩) hHeld ?_ ?_
      rotate_left
      · intro w' ⟨s0,s1,s2⟩
        go_simp
        with_reducible rfl
      rotate_left
      · simp only [Act.put,List.setIfInBounds_toArray,List.set_cons_zero,List.set_cons_succ,i64_w,i32_w]
        rfl
      refine pure_ (i:=8) (N:=(some 25)) (v:=?_) (a':=?_) #[true,true,true,true,true,true,true,true,true,false,false,false,false,false,false,false,false,false] rfl rfl (by kernel_rfl) (fun _ _ _ h=>h) (Or.inl ⟨by rfl,?_⟩) ?_ ?_
      rotate_left
      · intro w'
        go_simp
        with_reducible rfl
      rotate_left
      · simp only [Act.put,List.setIfInBounds_toArray,List.set_cons_zero,List.set_cons_succ,i64_w,i32_w]
        rfl
      refine pure_ (i:=9) (N:=(some 26)) (v:=?_) (a':=?_) #[true,true,true,true,true,true,true,true,true,true,false,false,false,false,false,false,false,false] rfl rfl (by kernel_rfl) (fun _ _ _ h=>h) (Or.inl ⟨by rfl,?_⟩) ?_ ?_
      rotate_left
      · intro w'
        go_simp
        with_reducible rfl
      rotate_left
      · simp only [Act.put,List.setIfInBounds_toArray,List.set_cons_zero,List.set_cons_succ,i64_w,i32_w]
        rfl
      refine pure_ (i:=10) (N:=(some 27)) (v:=?_) (a':=?_) #[true,true,true,true,true,true,true,true,true,true,true,false,false,false,false,false,false,false] rfl rfl (by kernel_rfl) (fun _ _ _ h=>h) (Or.inl ⟨by rfl,?_⟩) ?_ ?_
      rotate_left
      · intro w'
        go_simp
        with_reducible rfl
      rotate_left
      · simp only [Act.put,List.setIfInBounds_toArray,List.set_cons_zero,List.set_cons_succ,i64_w,i32_w]
        rfl
      refine pure_ (i:=11) (N:=(some 28)) (v:=?_) (a':=?_) #[true,true,true,true,true,true,true,true,true,true,true,true,false,false,false,false,false,false] rfl rfl (by kernel_rfl) (fun _ _ _ h=>h) (Or.inl ⟨by rfl,?_⟩) ?_ ?_
      rotate_left
      · intro w'
        go_simp
        with_reducible rfl
      rotate_left
      · simp only [Act.put,List.setIfInBounds_toArray,List.set_cons_zero,List.set_cons_succ,i64_w,i32_w]
        rfl
      refine pure_ (i:=12) (N:=(some 29)) (v:=?_) (a':=?_) #[true,true,true,true,true,true,true,true,true,true,true,true,true,false,false,false,false,false] rfl rfl (by kernel_rfl) (fun _ _ _ h=>h) (Or.inl ⟨by rfl,?_⟩) ?_ ?_
      rotate_left
      · intro w'
        go_simp
        with_reducible rfl
      rotate_left
      · simp only [Act.put,List.setIfInBounds_toArray,List.set_cons_zero,List.set_cons_succ,i64_w,i32_w]
        rfl
      refine take_ (i:=13) (N:=(some 30)) (v:=?_) (a':=?_) #[true,true,true,true,true,true,true,true,true,true,true,true,true,true,false,false,false,false] rfl rfl (by kernel_rfl) (fun _ _ _ h=>h) (Or.inl ⟨by rfl,?_⟩) hHeld ?_ ?_
      rotate_left
      · intro w' ⟨s0,s1,s2⟩
        go_simp
        with_reducible rfl
      rotate_left
      · simp only [Act.put,List.setIfInBounds_toArray,List.set_cons_zero,List.set_cons_succ,i64_w,i32_w]
        rfl
      refine pure_ (i:=14) (N:=(some 31)) (v:=?_) (a':=?_) #[true,true,true,true,true,true,true,true,true,true,true,true,true,true,true,false,false,false] rfl rfl (by kernel_rfl) (fun _ _ _ h=>h) (Or.inl ⟨by rfl,?_⟩) ?_ ?_
      rotate_left
      · intro w'
        go_simp
        with_reducible rfl
      rotate_left
      · simp only [Act.put,List.setIfInBounds_toArray,List.set_cons_zero,List.set_cons_succ,i64_w,i32_w]
        rfl
      refine one_ (i:=15) (N:=(some 32)) #[true,true,true,true,true,true,true,true,true,true,true,true,true,true,true,true,false,false] rfl rfl (by kernel_rfl) (by decide) (fun K hK=>?_)
      refine value_ (w1:=?_) (v:=?_) (by rfl) rfl ?_ ?_
      rotate_left 2
      · go_simp
        constructor
        · rfl
        · rfl
      refine hK.out _ _ ⟨(below_alloc (Below.refl _ _) _).cell (World.block_lt_of_cell? _ _ hHeld.1) |>.trans hHeld.1,(below_alloc (Below.refl _ _) _).cell (World.block_lt_of_cell? _ _ hHeld.2.1) |>.trans hHeld.2.1,(below_alloc (Below.refl _ _) _).cell (World.block_lt_of_cell? _ _ hHeld.2.2) |>.trans hHeld.2.2⟩ (fun hHeld=>?_)
      clear hK K
      refine norm_ (a':=?_) ?_ ?_
      rotate_left
      · show Act.put _ (some 32) _ = _
        simp only [Act.put,List.setIfInBounds_toArray,List.set_cons_zero,List.set_cons_succ,i64_w,i32_w]
        rfl
      refine one_ (i:=16) (N:=(some 33)) #[true,true,true,true,true,true,true,true,true,true,true,true,true,true,true,true,true,false] rfl rfl (by kernel_rfl) (by decide) (fun K hK=>?_)
      have hW2:W2.heap.size ≤ W4.heap.size:=HSZ.out
      refine Kd.S_append_step k65 (w0:=w) w.heap.size (by rfl) (.tmp 17) (.tmp 32) 33 65 (.agg #[.bool false,.slice none 0 0,.slice none 0 0]) 56 rfl Try.underlying33 info65 rfl (by decide) (by decide) u4 (zipN l0 t j) (⟨x.f0,ya,yb⟩:S65) [.bool x.f0,.slice Aa ya.length ca_,.slice Ab yb.length cb_] (fun k_=>W2.heap.size ≤ k_ ∨ f k_ < 2 * (j + 1)) (fun k_=>(k_ < W2.heap.size ∧ (f k_ = 2 * j ∨ f k_ = 2 * j + 1)) ∧ some k_ ≠ u4.ownBlock) rfl rfl (k65_mkM _ _ _ (⟨x.f0,ya,yb⟩:S65) (Kd.R_mono (Kd.R_apart' RA.out (Kd.S_typed HO.out) (by decide)) (fun k_ h=>⟨⟨h.1.1.1,.inl h.1.2⟩,h.2⟩)) (Kd.R_mono (Kd.R_apart' RB.out (Kd.S_typed HO.out) (by decide)) (fun k_ h=>⟨⟨h.1.1.1,.inr h.1.2⟩,h.2⟩))) (fun k_ hk=>⟨.inr (by have:=hk.1.2;omega),hk.2⟩) (fun k_ hk=>.inl (Nat.le_trans hW2 hk)) (Kd.S_mono HO.out (fun k_ h=>⟨h.elim .inl (fun h=>.inr (by omega)),fun q_=>by have h1:=q_.1.1;have h2:=q_.1.2;omega⟩)) HB.out HB.out.size (by rw [zipN_len];omega) ?_
      intro v1 w1 ho hb hg_ hat_
      have HT2:=Aside0.mk (Kd.R_over' HT.out (Kd.S_typed HO.out) (by show ∀ q,q ∈ 22 :: (Kd.slice 3 (Kd.int .i64)).E → q ≠ 65;decide) hg_)
      have HO2:=Aside0.mk ho
      have HB2:=Aside0.mk hb
      have HSZ2:=Aside0.mk (Nat.le_trans hW2 hg_.size)
      have eT1:=hg_.block gT (World.block_lt_of_cell? _ _ TA.out) HNT.out
      have eG1:=hg_.block g (World.block_lt_of_cell? _ _ B0.out) HNG.out
      have c0:w1.cell? ⟨g,0,none⟩ = some (.bool x.f0):=by have:=B0.out;unfold World.cell? at this ⊢;rw [eG1];exact this
      have c1:w1.cell? ⟨gT,2 * j,none⟩ = some (.slice Aa ya.length ca_):=by have:=TA.out;unfold World.cell? at this ⊢;rw [eT1];exact this
      have c2:w1.cell? ⟨gT,2 * j + 1,none⟩ = some (.slice Ab yb.length cb_):=by have:=TB.out;unfold World.cell? at this ⊢;rw [eT1];exact this
      clear ho hb hg_ hat_ eT1 eG1 hHeld
      refine hK.out _ _ ⟨c0,c1,c2⟩ (fun hHeld=>?_)
      clear hK K
      refine norm_ (a':=?_) ?_ ?_
      rotate_left
      · show Act.put _ (some 33) _ = _
        simp only [Act.put,List.setIfInBounds_toArray,List.set_cons_zero,List.set_cons_succ,i64_w,i32_w]
        rfl
      clear c0 c1 c2
      refine pure_ (i:=17) (N:=(some 4)) (v:=?_) (a':=?_) #[true,true,true,true,true,true,true,true,true,true,true,true,true,true,true,true,true,true] rfl rfl (by kernel_rfl) (fun _ _ _ h=>h) (Or.inl ⟨by rfl,?_⟩) ?_ ?_
      rotate_left
      · intro w'
        go_simp
        with_reducible rfl
      rotate_left
      · simp only [Act.put,List.setIfInBounds_toArray,List.set_cons_zero,List.set_cons_succ,i64_w,i32_w]
        rfl
      clear hHeld
      refine done_ (by kernel_rfl) ?_
      go_wp2
      go_roundw
      case rel=>exact ⟨j + 1,hp,rfl,by have:=HO2.out;unfold Hid;rw [HZ.out];exact this,HT2.out,HB2.out,HSZ2.out⟩
      case measure=>simp [intOf];omega
    · obtain rfl:j = l0.length:=by omega
      have HO:=Aside0.mk hO
      have HB:=Aside0.mk hB
      clear hO hB hT
      go_wp2
      go_ret
      exact ⟨_,rfl,Kd.S_mono HO.out (fun _ _=>trivial),HB.out⟩

/-! ### spec_l4SameTerms: function 137, by a walk of this session's own -/
def spec_l4SameTerms.f (k:Nat) (a0_0:Bool) (l0_1:List Int) (l0_2:List Int) (a1_0:Bool) (l1_1:List Int) (l1_2:List Int):Option Bool:=(spec_l1Same.f k l0_1 l1_1).bind fun t1=>(if t1 = true then ((spec_l1Same.f k l0_2 l1_2).bind fun t2=>(if t2 = true then (some true) else ((spec_l1Same.f k l0_1 l1_2).bind fun t3=>(if t3 = true then ((spec_l1Same.f k l0_2 l1_1).bind fun t4=>(some t4)) else (some false))))) else ((spec_l1Same.f k l0_1 l1_2).bind fun t3=>(if t3 = true then ((spec_l1Same.f k l0_2 l1_1).bind fun t4=>(some t4)) else (some false))))
theorem spec_l4SameTerms.mono (a0_0:Bool) (l0_1:List Int) (l0_2:List Int) (a1_0:Bool) (l1_1:List Int) (l1_2:List Int) (k:Nat):LeO (spec_l4SameTerms.f k a0_0 l0_1 l0_2 a1_0 l1_1 l1_2) (spec_l4SameTerms.f (k + 1) a0_0 l0_1 l0_2 a1_0 l1_1 l1_2):=by
  unfold spec_l4SameTerms.f
  exact LeO.bind (spec_l1Same.mono _ _ _) (fun _=>LeO.ite (LeO.bind (spec_l1Same.mono _ _ _) (fun _=>LeO.ite (LeO.refl _) (LeO.bind (spec_l1Same.mono _ _ _) (fun _=>LeO.ite (LeO.bind (spec_l1Same.mono _ _ _) (fun _=>LeO.refl _)) (LeO.refl _))))) (LeO.bind (spec_l1Same.mono _ _ _) (fun _=>LeO.ite (LeO.bind (spec_l1Same.mono _ _ _) (fun _=>LeO.refl _)) (LeO.refl _))))
set_option maxHeartbeats 8000000 in
set_option maxRecDepth 1000000 in
theorem spec_l4SameTerms.calls (k:Nat) (a0_0:Bool) (A0_1:Option Addr) (c0_1:Nat) (l0_1:List Int) (A0_2:Option Addr) (c0_2:Nat) (l0_2:List Int) (a1_0:Bool) (A1_1:Option Addr) (c1_1:Nat) (l1_1:List Int) (A1_2:Option Addr) (c1_2:Nat) (l1_2:List Int) (r:Bool) (w:World) (hr0_1:Kd.C (Kd.int .i64) w A0_1 l0_1.length l0_1) (hc0_1:l0_1.length ≤ c0_1) (hr0_2:Kd.C (Kd.int .i64) w A0_2 l0_2.length l0_2) (hc0_2:l0_2.length ≤ c0_2) (hr1_1:Kd.C (Kd.int .i64) w A1_1 l1_1.length l1_1) (hc1_1:l1_1.length ≤ c1_1) (hr1_2:Kd.C (Kd.int .i64) w A1_2 l1_2.length l1_2) (hc1_2:l1_2.length ≤ c1_2) (h:spec_l4SameTerms.f k a0_0 l0_1 l0_2 a1_0 l1_1 l1_2 = some r) :
    Calls Try.prog 137 #[.agg #[.bool a0_0,.slice A0_1 l0_1.length c0_1,.slice A0_2 l0_2.length c0_2],.agg #[.bool a1_0,.slice A1_1 l1_1.length c1_1,.slice A1_2 l1_2.length c1_2]] w fun e w'=>e = .returned (.bool r) ∧ Below w.heap.size w w':=by
  have P1:=Aside0.mk hr0_1
  have P2:=Aside0.mk hr0_2
  have Q1:=Aside0.mk hr1_1
  have Q2:=Aside0.mk hr1_2
  unfold spec_l4SameTerms.f at h
  have HH:=Aside0.mk h
  clear hr0_1 hr0_2 hr1_1 hr1_2 h
  go_enter Try.func137,Try.ntmps137
  go_upto_region 1 with fail
  have HX:=Aside0.mk (blk_alloc (heap_alloc_new w (.cells #[.bool a0_0,.slice A0_1 l0_1.length c0_1,.slice A0_2 l0_2.length c0_2] 65)) (.cells #[.bool a1_0,.slice A1_1 l1_1.length c1_1,.slice A1_2 l1_2.length c1_2] 65))
  have HY:=Aside0.mk (heap_alloc_new (w.alloc (.cells #[.bool a0_0,.slice A0_1 l0_1.length c0_1,.slice A0_2 l0_2.length c0_2] 65)) (.cells #[.bool a1_0,.slice A1_1 l1_1.length c1_1,.slice A1_2 l1_2.length c1_2] 65))
  have HB:=Aside0.mk (below_step (below_alloc (Below.refl w.heap.size w) (.cells #[.bool a0_0,.slice A0_1 l0_1.length c0_1,.slice A0_2 l0_2.length c0_2] 65)) (below_alloc (Below.refl _ _) (.cells #[.bool a1_0,.slice A1_1 l1_1.length c1_1,.slice A1_2 l1_2.length c1_2] 65)))
  have hsz:(w.alloc (.cells #[.bool a0_0,.slice A0_1 l0_1.length c0_1,.slice A0_2 l0_2.length c0_2] 65)).heap.size = w.heap.size + 1:=by unfold World.alloc;exact Array.size_push _
  rw [hsz] at HY
  clear hsz
  obtain ⟨gx,hgx⟩:∃ g,g = w.heap.size:=⟨_,rfl⟩
  obtain ⟨gy,hgy⟩:∃ g,g = w.heap.size + 1:=⟨_,rfl⟩
  generalize (w.alloc (.cells #[.bool a0_0,.slice A0_1 l0_1.length c0_1,.slice A0_2 l0_2.length c0_2] 65)).alloc (.cells #[.bool a1_0,.slice A1_1 l1_1.length c1_1,.slice A1_2 l1_2.length c1_2] 65) = W at HX HY HB ⊢
  rw [← hgy] at HY ⊢
  rw [← hgx] at HX ⊢
  clear hgx hgy
  have xa1:W.cell? ⟨gx,1,none⟩ = some (.slice A0_1 l0_1.length c0_1):=(blk_cell HX.out 1).trans rfl
  have xa2:W.cell? ⟨gx,2,none⟩ = some (.slice A0_2 l0_2.length c0_2):=(blk_cell HX.out 2).trans rfl
  have ya1:W.cell? ⟨gy,1,none⟩ = some (.slice A1_1 l1_1.length c1_1):=(blk_cell HY.out 1).trans rfl
  have ya2:W.cell? ⟨gy,2,none⟩ = some (.slice A1_2 l1_2.length c1_2):=(blk_cell HY.out 2).trans rfl
  have h9:=HH.out
  clear HH
  obtain ⟨t1,e1,h9⟩:=Option.bind_eq_some_iff.1 h9
  have E1:=Aside0.mk e1
  clear e1
  cases t1 with
  | false =>
    simp only [Bool.false_eq_true,if_false] at h9
    obtain ⟨t3,e3,h9⟩:=Option.bind_eq_some_iff.1 h9
    have E3:=Aside0.mk e3
    cases t3 with
    | false =>
      simp only [Bool.false_eq_true,if_false,Option.some.injEq] at h9
      subst h9
      clear e3
      have c1:=spec_l1Same.calls k A0_1 c0_1 l0_1 A1_1 c1_1 l1_1 false W (Kd.C_below P1.out HB.out) hc0_1 (Kd.C_below Q1.out HB.out) hc1_1 E1.out
      go_wp2_with (first|(go_at_call 127;refine c1.mono ?_;clear c1;first|rintro e_ W1 rfl hd|rintro e_ W1 ⟨rfl,hd⟩;have HX:=Aside0.mk ((hd.below.block gx (blk_lt HX.out)).trans HX.out);have HY:=Aside0.mk ((hd.below.block gy (blk_lt HY.out)).trans HY.out);have HB:=Aside0.mk (below_step HB.out hd.below);clear hd;have xb1:W1.cell? ⟨gx,1,none⟩ = some (.slice A0_1 l0_1.length c0_1):=(blk_cell HX.out 1).trans rfl;have xb2:W1.cell? ⟨gx,2,none⟩ = some (.slice A0_2 l0_2.length c0_2):=(blk_cell HX.out 2).trans rfl;have yb1:W1.cell? ⟨gy,1,none⟩ = some (.slice A1_1 l1_1.length c1_1):=(blk_cell HY.out 1).trans rfl;have yb2:W1.cell? ⟨gy,2,none⟩ = some (.slice A1_2 l1_2.length c1_2):=(blk_cell HY.out 2).trans rfl;have c2:=spec_l1Same.calls k A0_1 c0_1 l0_1 A1_2 c1_2 l1_2 false W1 (Kd.C_below P1.out HB.out) hc0_1 (Kd.C_below Q2.out HB.out) hc1_2 E3.out)|(go_at_call 127;refine c2.mono ?_;clear c2;first|rintro e_ W2 rfl hd|rintro e_ W2 ⟨rfl,hd⟩;have HX:=Aside0.mk ((hd.below.block gx (blk_lt HX.out)).trans HX.out);have HY:=Aside0.mk ((hd.below.block gy (blk_lt HY.out)).trans HY.out);have HB:=Aside0.mk (below_step HB.out hd.below);clear hd))
      go_ret
      exact ⟨rfl,HB.out⟩
    | true =>
      simp only [if_true] at h9
      obtain ⟨t4,e4,h9⟩:=Option.bind_eq_some_iff.1 h9
      have E4:=Aside0.mk e4
      simp only [Option.some.injEq] at h9
      subst h9
      clear e3 e4
      have c1:=spec_l1Same.calls k A0_1 c0_1 l0_1 A1_1 c1_1 l1_1 false W (Kd.C_below P1.out HB.out) hc0_1 (Kd.C_below Q1.out HB.out) hc1_1 E1.out
      go_wp2_with (first|(go_at_call 127;refine c1.mono ?_;clear c1;first|rintro e_ W1 rfl hd|rintro e_ W1 ⟨rfl,hd⟩;have HX:=Aside0.mk ((hd.below.block gx (blk_lt HX.out)).trans HX.out);have HY:=Aside0.mk ((hd.below.block gy (blk_lt HY.out)).trans HY.out);have HB:=Aside0.mk (below_step HB.out hd.below);clear hd;have xb1:W1.cell? ⟨gx,1,none⟩ = some (.slice A0_1 l0_1.length c0_1):=(blk_cell HX.out 1).trans rfl;have xb2:W1.cell? ⟨gx,2,none⟩ = some (.slice A0_2 l0_2.length c0_2):=(blk_cell HX.out 2).trans rfl;have yb1:W1.cell? ⟨gy,1,none⟩ = some (.slice A1_1 l1_1.length c1_1):=(blk_cell HY.out 1).trans rfl;have yb2:W1.cell? ⟨gy,2,none⟩ = some (.slice A1_2 l1_2.length c1_2):=(blk_cell HY.out 2).trans rfl;have c2:=spec_l1Same.calls k A0_1 c0_1 l0_1 A1_2 c1_2 l1_2 true W1 (Kd.C_below P1.out HB.out) hc0_1 (Kd.C_below Q2.out HB.out) hc1_2 E3.out)|(go_at_call 127;refine c2.mono ?_;clear c2;first|rintro e_ W2 rfl hd|rintro e_ W2 ⟨rfl,hd⟩;have HX:=Aside0.mk ((hd.below.block gx (blk_lt HX.out)).trans HX.out);have HY:=Aside0.mk ((hd.below.block gy (blk_lt HY.out)).trans HY.out);have HB:=Aside0.mk (below_step HB.out hd.below);clear hd;have xc1:W2.cell? ⟨gx,1,none⟩ = some (.slice A0_1 l0_1.length c0_1):=(blk_cell HX.out 1).trans rfl;have xc2:W2.cell? ⟨gx,2,none⟩ = some (.slice A0_2 l0_2.length c0_2):=(blk_cell HX.out 2).trans rfl;have yc1:W2.cell? ⟨gy,1,none⟩ = some (.slice A1_1 l1_1.length c1_1):=(blk_cell HY.out 1).trans rfl;have yc2:W2.cell? ⟨gy,2,none⟩ = some (.slice A1_2 l1_2.length c1_2):=(blk_cell HY.out 2).trans rfl;have c3:=spec_l1Same.calls k A0_2 c0_2 l0_2 A1_1 c1_1 l1_1 t4 W2 (Kd.C_below P2.out HB.out) hc0_2 (Kd.C_below Q1.out HB.out) hc1_1 E4.out)|(go_at_call 127;refine c3.mono ?_;clear c3;first|rintro e_ W3 rfl hd|rintro e_ W3 ⟨rfl,hd⟩;have HX:=Aside0.mk ((hd.below.block gx (blk_lt HX.out)).trans HX.out);have HY:=Aside0.mk ((hd.below.block gy (blk_lt HY.out)).trans HY.out);have HB:=Aside0.mk (below_step HB.out hd.below);clear hd))
      go_ret
      exact ⟨rfl,HB.out⟩
  | true =>
    simp only [if_true] at h9
    obtain ⟨t2,e2,h9⟩:=Option.bind_eq_some_iff.1 h9
    have E2:=Aside0.mk e2
    clear e2
    cases t2 with
    | true =>
      simp only [if_true,Option.some.injEq] at h9
      subst h9
      have c1:=spec_l1Same.calls k A0_1 c0_1 l0_1 A1_1 c1_1 l1_1 true W (Kd.C_below P1.out HB.out) hc0_1 (Kd.C_below Q1.out HB.out) hc1_1 E1.out
      go_wp2_with (first|(go_at_call 127;refine c1.mono ?_;clear c1;first|rintro e_ W1 rfl hd|rintro e_ W1 ⟨rfl,hd⟩;have HX:=Aside0.mk ((hd.below.block gx (blk_lt HX.out)).trans HX.out);have HY:=Aside0.mk ((hd.below.block gy (blk_lt HY.out)).trans HY.out);have HB:=Aside0.mk (below_step HB.out hd.below);clear hd;have xb1:W1.cell? ⟨gx,1,none⟩ = some (.slice A0_1 l0_1.length c0_1):=(blk_cell HX.out 1).trans rfl;have xb2:W1.cell? ⟨gx,2,none⟩ = some (.slice A0_2 l0_2.length c0_2):=(blk_cell HX.out 2).trans rfl;have yb1:W1.cell? ⟨gy,1,none⟩ = some (.slice A1_1 l1_1.length c1_1):=(blk_cell HY.out 1).trans rfl;have yb2:W1.cell? ⟨gy,2,none⟩ = some (.slice A1_2 l1_2.length c1_2):=(blk_cell HY.out 2).trans rfl;have c2:=spec_l1Same.calls k A0_2 c0_2 l0_2 A1_2 c1_2 l1_2 true W1 (Kd.C_below P2.out HB.out) hc0_2 (Kd.C_below Q2.out HB.out) hc1_2 E2.out)|(go_at_call 127;refine c2.mono ?_;clear c2;first|rintro e_ W2 rfl hd|rintro e_ W2 ⟨rfl,hd⟩;have HX:=Aside0.mk ((hd.below.block gx (blk_lt HX.out)).trans HX.out);have HY:=Aside0.mk ((hd.below.block gy (blk_lt HY.out)).trans HY.out);have HB:=Aside0.mk (below_step HB.out hd.below);clear hd))
      go_ret
      exact ⟨rfl,HB.out⟩
    | false =>
      simp only [Bool.false_eq_true,if_false] at h9
      obtain ⟨t3,e3,h9⟩:=Option.bind_eq_some_iff.1 h9
      have E3:=Aside0.mk e3
      cases t3 with
      | false =>
        simp only [Bool.false_eq_true,if_false,Option.some.injEq] at h9
        subst h9
        clear e3
        have c1:=spec_l1Same.calls k A0_1 c0_1 l0_1 A1_1 c1_1 l1_1 true W (Kd.C_below P1.out HB.out) hc0_1 (Kd.C_below Q1.out HB.out) hc1_1 E1.out
        go_wp2_with (first|(go_at_call 127;refine c1.mono ?_;clear c1;first|rintro e_ W1 rfl hd|rintro e_ W1 ⟨rfl,hd⟩;have HX:=Aside0.mk ((hd.below.block gx (blk_lt HX.out)).trans HX.out);have HY:=Aside0.mk ((hd.below.block gy (blk_lt HY.out)).trans HY.out);have HB:=Aside0.mk (below_step HB.out hd.below);clear hd;have xb1:W1.cell? ⟨gx,1,none⟩ = some (.slice A0_1 l0_1.length c0_1):=(blk_cell HX.out 1).trans rfl;have xb2:W1.cell? ⟨gx,2,none⟩ = some (.slice A0_2 l0_2.length c0_2):=(blk_cell HX.out 2).trans rfl;have yb1:W1.cell? ⟨gy,1,none⟩ = some (.slice A1_1 l1_1.length c1_1):=(blk_cell HY.out 1).trans rfl;have yb2:W1.cell? ⟨gy,2,none⟩ = some (.slice A1_2 l1_2.length c1_2):=(blk_cell HY.out 2).trans rfl;have c2:=spec_l1Same.calls k A0_2 c0_2 l0_2 A1_2 c1_2 l1_2 false W1 (Kd.C_below P2.out HB.out) hc0_2 (Kd.C_below Q2.out HB.out) hc1_2 E2.out)|(go_at_call 127;refine c2.mono ?_;clear c2;first|rintro e_ W2 rfl hd|rintro e_ W2 ⟨rfl,hd⟩;have HX:=Aside0.mk ((hd.below.block gx (blk_lt HX.out)).trans HX.out);have HY:=Aside0.mk ((hd.below.block gy (blk_lt HY.out)).trans HY.out);have HB:=Aside0.mk (below_step HB.out hd.below);clear hd;have xc1:W2.cell? ⟨gx,1,none⟩ = some (.slice A0_1 l0_1.length c0_1):=(blk_cell HX.out 1).trans rfl;have xc2:W2.cell? ⟨gx,2,none⟩ = some (.slice A0_2 l0_2.length c0_2):=(blk_cell HX.out 2).trans rfl;have yc1:W2.cell? ⟨gy,1,none⟩ = some (.slice A1_1 l1_1.length c1_1):=(blk_cell HY.out 1).trans rfl;have yc2:W2.cell? ⟨gy,2,none⟩ = some (.slice A1_2 l1_2.length c1_2):=(blk_cell HY.out 2).trans rfl;have c3:=spec_l1Same.calls k A0_1 c0_1 l0_1 A1_2 c1_2 l1_2 false W2 (Kd.C_below P1.out HB.out) hc0_1 (Kd.C_below Q2.out HB.out) hc1_2 E3.out)|(go_at_call 127;refine c3.mono ?_;clear c3;first|rintro e_ W3 rfl hd|rintro e_ W3 ⟨rfl,hd⟩;have HX:=Aside0.mk ((hd.below.block gx (blk_lt HX.out)).trans HX.out);have HY:=Aside0.mk ((hd.below.block gy (blk_lt HY.out)).trans HY.out);have HB:=Aside0.mk (below_step HB.out hd.below);clear hd))
        go_ret
        exact ⟨rfl,HB.out⟩
      | true =>
        simp only [if_true] at h9
        obtain ⟨t4,e4,h9⟩:=Option.bind_eq_some_iff.1 h9
        have E4:=Aside0.mk e4
        simp only [Option.some.injEq] at h9
        subst h9
        clear e3 e4
        have c1:=spec_l1Same.calls k A0_1 c0_1 l0_1 A1_1 c1_1 l1_1 true W (Kd.C_below P1.out HB.out) hc0_1 (Kd.C_below Q1.out HB.out) hc1_1 E1.out
        go_wp2_with (first|(go_at_call 127;refine c1.mono ?_;clear c1;first|rintro e_ W1 rfl hd|rintro e_ W1 ⟨rfl,hd⟩;have HX:=Aside0.mk ((hd.below.block gx (blk_lt HX.out)).trans HX.out);have HY:=Aside0.mk ((hd.below.block gy (blk_lt HY.out)).trans HY.out);have HB:=Aside0.mk (below_step HB.out hd.below);clear hd;have xb1:W1.cell? ⟨gx,1,none⟩ = some (.slice A0_1 l0_1.length c0_1):=(blk_cell HX.out 1).trans rfl;have xb2:W1.cell? ⟨gx,2,none⟩ = some (.slice A0_2 l0_2.length c0_2):=(blk_cell HX.out 2).trans rfl;have yb1:W1.cell? ⟨gy,1,none⟩ = some (.slice A1_1 l1_1.length c1_1):=(blk_cell HY.out 1).trans rfl;have yb2:W1.cell? ⟨gy,2,none⟩ = some (.slice A1_2 l1_2.length c1_2):=(blk_cell HY.out 2).trans rfl;have c2:=spec_l1Same.calls k A0_2 c0_2 l0_2 A1_2 c1_2 l1_2 false W1 (Kd.C_below P2.out HB.out) hc0_2 (Kd.C_below Q2.out HB.out) hc1_2 E2.out)|(go_at_call 127;refine c2.mono ?_;clear c2;first|rintro e_ W2 rfl hd|rintro e_ W2 ⟨rfl,hd⟩;have HX:=Aside0.mk ((hd.below.block gx (blk_lt HX.out)).trans HX.out);have HY:=Aside0.mk ((hd.below.block gy (blk_lt HY.out)).trans HY.out);have HB:=Aside0.mk (below_step HB.out hd.below);clear hd;have xc1:W2.cell? ⟨gx,1,none⟩ = some (.slice A0_1 l0_1.length c0_1):=(blk_cell HX.out 1).trans rfl;have xc2:W2.cell? ⟨gx,2,none⟩ = some (.slice A0_2 l0_2.length c0_2):=(blk_cell HX.out 2).trans rfl;have yc1:W2.cell? ⟨gy,1,none⟩ = some (.slice A1_1 l1_1.length c1_1):=(blk_cell HY.out 1).trans rfl;have yc2:W2.cell? ⟨gy,2,none⟩ = some (.slice A1_2 l1_2.length c1_2):=(blk_cell HY.out 2).trans rfl;have c3:=spec_l1Same.calls k A0_1 c0_1 l0_1 A1_2 c1_2 l1_2 true W2 (Kd.C_below P1.out HB.out) hc0_1 (Kd.C_below Q2.out HB.out) hc1_2 E3.out)|(go_at_call 127;refine c3.mono ?_;clear c3;first|rintro e_ W3 rfl hd|rintro e_ W3 ⟨rfl,hd⟩;have HX:=Aside0.mk ((hd.below.block gx (blk_lt HX.out)).trans HX.out);have HY:=Aside0.mk ((hd.below.block gy (blk_lt HY.out)).trans HY.out);have HB:=Aside0.mk (below_step HB.out hd.below);clear hd;have xd1:W3.cell? ⟨gx,1,none⟩ = some (.slice A0_1 l0_1.length c0_1):=(blk_cell HX.out 1).trans rfl;have xd2:W3.cell? ⟨gx,2,none⟩ = some (.slice A0_2 l0_2.length c0_2):=(blk_cell HX.out 2).trans rfl;have yd1:W3.cell? ⟨gy,1,none⟩ = some (.slice A1_1 l1_1.length c1_1):=(blk_cell HY.out 1).trans rfl;have yd2:W3.cell? ⟨gy,2,none⟩ = some (.slice A1_2 l1_2.length c1_2):=(blk_cell HY.out 2).trans rfl;have c4:=spec_l1Same.calls k A0_2 c0_2 l0_2 A1_1 c1_1 l1_1 t4 W3 (Kd.C_below P2.out HB.out) hc0_2 (Kd.C_below Q1.out HB.out) hc1_1 E4.out)|(go_at_call 127;refine c4.mono ?_;clear c4;first|rintro e_ W4 rfl hd|rintro e_ W4 ⟨rfl,hd⟩;have HX:=Aside0.mk ((hd.below.block gx (blk_lt HX.out)).trans HX.out);have HY:=Aside0.mk ((hd.below.block gy (blk_lt HY.out)).trans HY.out);have HB:=Aside0.mk (below_step HB.out hd.below);clear hd))
        go_ret
        exact ⟨rfl,HB.out⟩

/-! ### spec_l4Own: function 138 -/
def spec_l4Own.l0:Nat → List (S65) → List (S65) → Int → Int → Option ((List (S65)))
 | 0,_,_,_,_=>none
 | k + 1,x3,x6,x7,x8=>if x8 < x7 then (if 0 ≤ x8 then (if x8 < (x6.length:Int) then ((spec_l1Own.f ((rd_T65 x6 x8).f1)).bind fun t312=>((spec_l1Own.f ((rd_T65 x6 x8).f2)).bind fun t315=>(if x3.length < 2513169434916 then (spec_l4Own.l0 k (x3 ++ [(⟨(rd_T65 x6 x8).f0,t312,t315⟩:S65)]) x6 x7 (wrap64 (x8 + 1))) else (none)))) else (none)) else (none)) else (some x3)
def spec_l4Own.f (k:Nat) (l0:List (S65)):Option ((List (S65))):=spec_l4Own.l0 k ([]:List (S65)) l0 (l0.length:Int) 0
theorem spec_l4Own.mono_l:∀ k,(∀ y0 y1 y2 y3,LeO (spec_l4Own.l0 k y0 y1 y2 y3) (spec_l4Own.l0 (k + 1) y0 y1 y2 y3))
 | 0=>fun _ _ _ _ r h=>by simp [spec_l4Own.l0] at h
 | k + 1=>by
  have ih0:=spec_l4Own.mono_l k
  ·intro y0 y1 y2 y3
   unfold spec_l4Own.l0
   exact mO
theorem spec_l4Own.mono:∀ a0 k,LeO (spec_l4Own.f k a0) (spec_l4Own.f (k + 1) a0):=by
 intro a0 k
 have ih0:=spec_l4Own.mono_l k
 unfold spec_l4Own.f
 exact mO
def spec_l4Own.T5:Bool × List (List Nat × List Nat):=(true,[([],[]),([],[]),([1],[1]),([],[]),([3],[3]),([4],[4]),([],[]),([6],[6]),([7,5],[7]),([2,5,8],[2,5,8]),([9],[9]),([0,10,8],[0,10]),([11,11,0,1,2,3,4,5,6,7,8,9,10,11],[0,11])])
def spec_l4Own.B5:List Nat:=[0,0,2,0,8,24,0,64,248,510,1022,2047,4095]
theorem spec_l4Own.tab5:rtab .any (opsOf Try.f138 5) = spec_l4Own.T5:=by kernel_rfl
theorem spec_l4Own.bits5:waitsOk spec_l4Own.T5.2 spec_l4Own.B5 = true:=by kernel_rfl
set_option maxHeartbeats 8000000 in
set_option maxRecDepth 100000 in
theorem spec_l4Own.calls (k:Nat) (A0:Option Addr) (c0:Nat) (l0:List (S65)) (r:List (S65)) (w:World) (hr0:Kd.C k65 w A0 l0.length l0) (hc0:l0.length ≤ c0) (h:spec_l4Own.f k l0 = some r) :
  Calls Try.prog 138 #[.slice A0 l0.length c0] w fun e w'=>∃ v0_:Value,e = .returned (v0_) ∧ Kd.S k65 65 w' w.heap.size (fun _=>True) v0_ r ∧ Below w.heap.size w w':=by
 have hu65:=Try.underlying65
 have HR0:=Aside0.mk hr0
 have HC0:=Aside0.mk hc0
 clear hr0 hc0
 have HB:=Aside0.mk (Below.refl w.heap.size w)
 have H:(spec_l4Own.l0 k ([]:List (S65)) l0 (l0.length:Int) 0) = some r:=h
 clear h
 have H':=Aside0.mk H
 clear H
 go_enter Try.func138,Try.ntmps138
 go_wp2
 go_loopg [3,8] k (fun kq v3 v8 w'=>∃ (x3_1:List (S65)) (x8_1:Int),v8 = .int .i64 x8_1 ∧ Aside0 (spec_l4Own.l0 kq x3_1 l0 (l0.length:Int) x8_1 = some r) ∧ Aside0 (kq ≤ k) ∧ Aside0 (Kd.S k65 65 w' w.heap.size (fun _=>True) v3 x3_1) ∧ Aside0 (Below w.heap.size w w'))
 case atStart=>exact ⟨(([]:List (S65))),(0),Yb,H',⟨Nat.le_refl _⟩,⟨by first|exact Kd.S_nil _ _ _ _ _|exact Kd.N_nil _ _ _ _ _|exact Kd.V_nil _ _ _ _ _|exact Kd.Q_nil _ _ _ _ _|exact Kd.R_nil _ _ _ _ _⟩,⟨bH⟩⟩
 case round =>
  clear H'
  try clear c1
  obtain ⟨x3_1,x8_1,rfl,HA,HK1,HO_3,HB⟩:=hrel
  cases gk with
  | zero=>exact absurd HA.out (by simp [spec_l4Own.l0])
  | succ k1 =>
   have H:=HA.out
   clear HA
   simp only [spec_l4Own.l0] at H
   by_cases c2:x8_1 < (l0.length:Int)
   ·rw [if_pos c2] at H
    have c2b0:=decide_eq_true c2
    clear c2
    by_cases c3:0 ≤ x8_1
    ·rw [if_pos c3] at H
     have c3b0:=decide_eq_true c3
     clear c3
     by_cases c4:x8_1 < (l0.length:Int)
     ·rw [if_pos c4] at H
      have c4b0:=decide_eq_true c4
      clear c4
      replace H:=Option.bind_eq_some_iff.mp H
      obtain ⟨t312,A50,H⟩:=H
      replace H:((spec_l1Own.f ((rd_T65 l0 x8_1).f2)).bind fun t315=>(if x3_1.length < 2513169434916 then (spec_l4Own.l0 k1 (x3_1 ++ [(⟨(rd_T65 l0 x8_1).f0,t312,t315⟩:S65)]) l0 (l0.length:Int) (wrap64 (x8_1 + 1))) else (none))) = some r:=H
      have A5:=Aside0.mk A50
      clear A50
      replace H:=Option.bind_eq_some_iff.mp H
      obtain ⟨t315,A60,H⟩:=H
      replace H:(if x3_1.length < 2513169434916 then (spec_l4Own.l0 k1 (x3_1 ++ [(⟨(rd_T65 l0 x8_1).f0,t312,t315⟩:S65)]) l0 (l0.length:Int) (wrap64 (x8_1 + 1))) else (none)) = some r:=H
      have A6:=Aside0.mk A60
      clear A60
      by_cases c7:x3_1.length < 2513169434916
      ·rw [if_pos c7] at H
       have LMc7:=Aside0.mk c7
       clear c7
       obtain ⟨y318,hy318⟩:∃ y_:List (S65),y_ = (x3_1 ++ [(⟨(rd_T65 l0 x8_1).f0,t312,t315⟩:S65)]):=⟨_,rfl⟩
       replace H:(spec_l4Own.l0 k1 y318 l0 (l0.length:Int) (wrap64 (x8_1 + 1))) = some r:=by first|(rw [hy318];with_reducible exact H)|(have H2_:=(Option.bind_some _ _).symm.trans H;rw [hy318];with_reducible exact H2_)|(have H2_:=(Option.bind_some _ _).symm.trans H;with_reducible exact H2_)|with_reducible exact H|(rw [hy318];exact H)|exact H
       have Ny318:=Aside0.mk hy318
       clear hy318
       have H':=Aside0.mk H
       clear H
       have p310:0 ≤ (x8_1:Int):=oD
       have q310:x8_1 < (l0.length:Int):=oD
       obtain ⟨ad310,A310_1,c310_1,A310_2,c310_2,e310,hx310_0,hx310_1,hx310_2,hl310_1,hi310_1,hl310_2,hi310_2⟩:=at_T65 HR0.out x8_1 p310 q310
       cases e310
       replace hx310_0:=(HB.out.cell (World.block_lt_of_cell? w _ hx310_0)).trans hx310_0
       replace hx310_1:=(HB.out.cell (World.block_lt_of_cell? w _ hx310_1)).trans hx310_1
       replace hx310_2:=(HB.out.cell (World.block_lt_of_cell? w _ hx310_2)).trans hx310_2
       have HR310_1:=Aside0.mk hi310_1
       have HC310_1:=Aside0.mk hl310_1
       clear hi310_1 hl310_1
       have HR310_2:=Aside0.mk hi310_2
       have HC310_2:=Aside0.mk hl310_2
       clear hi310_2 hl310_2
       replace p310:=eq_true p310
       replace q310:=eq_true q310
       try go_wp2_with (first|((with_reducible refine gate_dst (N:=5) rfl ?_);refine box_event ?hg (N:=5) ?hd (cs:=#[.bool false,.slice none 0 0,.slice none 0 0]) (t:=65) ?hr ?_;(case hd=>rfl);(case hg=>rfl);(case hr=>first|(go_simp;done)|(go_simp;rfl));intro gb311 hg w8 hbox hb;replace HO_3:=Aside0.mk (Kd.S_below (Kd.S_elderB (rS HO_3) gb311 (Nat.le_of_eq hg.symm)) hb);have BK311:=Aside0.mk (hbox);have GW311:=Aside0.mk ((hZ:w.heap.size ≤ gb311));have GE311:=Aside0.mk ((hZ:w.heap.size ≤ gb311));replace HB:=Aside0.mk (below_step bH hb);clear hb hbox hg;have hcz9_0:w8.cell? ⟨gb311,0,none⟩ = some (.bool false):=(blk_cell BK311.out 0).trans rfl;have hcz9_1:w8.cell? ⟨gb311,1,none⟩ = some (.slice none 0 0):=(blk_cell BK311.out 1).trans rfl;have hcz9_2:w8.cell? ⟨gb311,2,none⟩ = some (.slice none 0 0):=(blk_cell BK311.out 2).trans rfl;have hfz9_0:=blk_frozen BK311.out 0;have hfz9_1:=blk_frozen BK311.out 1;have hfz9_2:=blk_frozen BK311.out 2))
       have n0_:Aside0 (Kd.S k65 65 (((w8.setCell ⟨gb311,0,none⟩ (.bool ((rd_T65 l0 x8_1).f0))).setCell ⟨gb311,1,none⟩ (.slice A310_1 ((rd_T65 l0 x8_1).f1).length c310_1)).setCell ⟨gb311,2,none⟩ (.slice A310_2 ((rd_T65 l0 x8_1).f2).length c310_2)) w.heap.size (fun k_=>k_ ≠ gb311) u3 x3_1):=⟨by (with_reducible repeat (first|apply Kd.S_alloc|apply Kd.S_drewN|apply Kd.S_drew));exact Kd.S_mono (Kd.S_far (p:=⟨gb311,2,none⟩) (Kd.S_far (p:=⟨gb311,1,none⟩) (Kd.S_far (p:=⟨gb311,0,none⟩) (Kd.S_mono HO_3.out (fun k_ hk=>(⟨hk,hk.2⟩:_ ∧ k_ ≠ gb311))) (fun _ hk=>hk.2) (.bool ((rd_T65 l0 x8_1).f0))) (fun _ hk=>hk.2) (.slice A310_1 ((rd_T65 l0 x8_1).f1).length c310_1)) (fun _ hk=>hk.2) (.slice A310_2 ((rd_T65 l0 x8_1).f2).length c310_2)) (fun _ hk=>hk.1.2)⟩
       have n1_:Aside0 ((((w8.setCell ⟨gb311,0,none⟩ (.bool ((rd_T65 l0 x8_1).f0))).setCell ⟨gb311,1,none⟩ (.slice A310_1 ((rd_T65 l0 x8_1).f1).length c310_1)).setCell ⟨gb311,2,none⟩ (.slice A310_2 ((rd_T65 l0 x8_1).f2).length c310_2)).heap[gb311]? = some (.cells #[.bool ((rd_T65 l0 x8_1).f0),.slice A310_1 ((rd_T65 l0 x8_1).f1).length c310_1,.slice A310_2 ((rd_T65 l0 x8_1).f2).length c310_2] 65 (0,0))):=⟨by (with_reducible repeat (first|refine blk_drewN ?_ _|refine blk_drew ?_|refine blk_alloc ?_ _));refine blk_put (cs:=#[.bool ((rd_T65 l0 x8_1).f0),.slice A310_1 ((rd_T65 l0 x8_1).f1).length c310_1,.slice none 0 0]) ?_ 2 _ rfl;(with_reducible repeat (first|refine blk_drewN ?_ _|refine blk_drew ?_|refine blk_alloc ?_ _));refine blk_put (cs:=#[.bool ((rd_T65 l0 x8_1).f0),.slice none 0 0,.slice none 0 0]) ?_ 1 _ rfl;(with_reducible repeat (first|refine blk_drewN ?_ _|refine blk_drew ?_|refine blk_alloc ?_ _));refine blk_put (cs:=#[.bool false,.slice none 0 0,.slice none 0 0]) ?_ 0 _ rfl;(with_reducible repeat (first|refine blk_drewN ?_ _|refine blk_drew ?_|refine blk_alloc ?_ _));exact BK311.out⟩
       have n2_:Aside0 (Below w.heap.size w (((w8.setCell ⟨gb311,0,none⟩ (.bool ((rd_T65 l0 x8_1).f0))).setCell ⟨gb311,1,none⟩ (.slice A310_1 ((rd_T65 l0 x8_1).f1).length c310_1)).setCell ⟨gb311,2,none⟩ (.slice A310_2 ((rd_T65 l0 x8_1).f2).length c310_2))):=⟨bH⟩
       (try clear HO_3)
       (try clear BK311)
       (try clear HB)
       generalize (((w8.setCell ⟨gb311,0,none⟩ (.bool ((rd_T65 l0 x8_1).f0))).setCell ⟨gb311,1,none⟩ (.slice A310_1 ((rd_T65 l0 x8_1).f1).length c310_1)).setCell ⟨gb311,2,none⟩ (.slice A310_2 ((rd_T65 l0 x8_1).f2).length c310_2)) = w10 at n0_ n1_ n2_ ⊢
       have HO_3:=n0_
       have BK311:=n1_
       have HB:=n2_
       clear n0_ n1_ n2_
       have n0_:=Aside0.mk (Kd.S_drew HO_3.out)
       have n1_:=Aside0.mk (blk_drew BK311.out)
       have n2_:=Aside0.mk (below_drew1 HB.out)
       clear HO_3
       clear BK311
       clear HB
       have HO_3:=n0_
       have BK311:=n1_
       have HB:=n2_
       clear n0_ n1_ n2_
       refine start_ (n:=13) (S:=fun w'=>w'.cell? ⟨gb311,0,none⟩ = some (.bool ((rd_T65 l0 x8_1).f0)) ∧ w'.cell? ⟨gb311,1,none⟩ = some (.slice A310_1 ((rd_T65 l0 x8_1).f1).length c310_1) ∧ w'.cell? ⟨gb311,2,none⟩ = some (.slice A310_2 ((rd_T65 l0 x8_1).f2).length c310_2)) (ds:=[]) #[false,false,false,false,false,false,false,false,false,false,false,false,false] (by kernel_rfl) rfl rfl ⟨(blk_cell BK311.out 0).trans rfl,(blk_cell BK311.out 1).trans rfl,(blk_cell BK311.out 2).trans rfl⟩ (fun hHeld=>?_);refine with_tabW spec_l4Own.tab5 spec_l4Own.bits5 (fun HT_ HW_=>?_)
       generalize w10.drew = w11 at HO_3 BK311 HB hHeld ⊢
       refine pure_ (i:=0) (N:=some 12) (v:=?_) (a':=?_) #[true,false,false,false,false,false,false,false,false,false,false,false,false] rfl rfl (any_of HT_.out (by kernel_rfl)) (fun _ _ _ h=>h) (Or.inl ⟨by rfl,?_⟩) ?_ ?_
       rotate_left
       ·intro w'
        go_simp
        with_reducible rfl
       rotate_left
       ·simp only [Act.put,List.setIfInBounds_toArray,List.set_cons_zero,List.set_cons_succ,i64_w,i32_w]
        rfl
       refine pure_ (i:=1) (N:=some 13) (v:=?_) (a':=?_) #[true,true,false,false,false,false,false,false,false,false,false,false,false] rfl rfl (any_of HT_.out (by kernel_rfl)) (fun _ _ _ h=>h) (Or.inl ⟨by rfl,?_⟩) ?_ ?_
       rotate_left
       ·intro w'
        go_simp
        with_reducible rfl
       rotate_left
       ·simp only [Act.put,List.setIfInBounds_toArray,List.set_cons_zero,List.set_cons_succ,i64_w,i32_w]
        rfl
       refine pure_ (i:=3) (N:=some 15) (v:=?_) (a':=?_) #[true,true,false,true,false,false,false,false,false,false,false,false,false] rfl rfl (any_of HT_.out (by kernel_rfl)) (fun _ _ _ h=>h) (Or.inl ⟨by rfl,?_⟩) ?_ ?_
       rotate_left
       ·intro w'
        go_simp
        with_reducible rfl
       rotate_left
       ·simp only [Act.put,List.setIfInBounds_toArray,List.set_cons_zero,List.set_cons_succ,i64_w,i32_w]
        rfl
       refine pure_ (i:=6) (N:=some 18) (v:=?_) (a':=?_) #[true,true,false,true,false,false,true,false,false,false,false,false,false] rfl rfl (any_of HT_.out (by kernel_rfl)) (fun _ _ _ h=>h) (Or.inl ⟨by rfl,?_⟩) ?_ ?_
       rotate_left
       ·intro w'
        go_simp
        with_reducible rfl
       rotate_left
       ·simp only [Act.put,List.setIfInBounds_toArray,List.set_cons_zero,List.set_cons_succ,i64_w,i32_w]
        rfl
       refine take_ (i:=2) (N:=some 14) (v:=?_) (a':=?_) #[true,true,true,true,false,false,true,false,false,false,false,false,false] rfl rfl (take_ofW HT_.out HW_.out (by kernel_rfl)) (fun _ _ _ h=>h) (Or.inl ⟨by rfl,?_⟩) hHeld ?_ ?_
       rotate_left
       ·rintro w' ⟨s0,s1,s2⟩
        go_simp
        with_reducible rfl
       rotate_left
       ·simp only [Act.put,List.setIfInBounds_toArray,List.set_cons_zero,List.set_cons_succ,i64_w,i32_w]
        rfl
       refine take_ (i:=4) (N:=some 16) (v:=?_) (a':=?_) #[true,true,true,true,true,false,true,false,false,false,false,false,false] rfl rfl (take_ofW HT_.out HW_.out (by kernel_rfl)) (fun _ _ _ h=>h) (Or.inl ⟨by rfl,?_⟩) hHeld ?_ ?_
       rotate_left
       ·rintro w' ⟨s0,s1,s2⟩
        go_simp
        with_reducible rfl
       rotate_left
       ·simp only [Act.put,List.setIfInBounds_toArray,List.set_cons_zero,List.set_cons_succ,i64_w,i32_w]
        rfl
       refine take_ (i:=7) (N:=some 19) (v:=?_) (a':=?_) #[true,true,true,true,true,false,true,true,false,false,false,false,false] rfl rfl (take_ofW HT_.out HW_.out (by kernel_rfl)) (fun _ _ _ h=>h) (Or.inl ⟨by rfl,?_⟩) hHeld ?_ ?_
       rotate_left
       ·rintro w' ⟨s0,s1,s2⟩
        go_simp
        with_reducible rfl
       rotate_left
       ·simp only [Act.put,List.setIfInBounds_toArray,List.set_cons_zero,List.set_cons_succ,i64_w,i32_w]
        rfl
       refine one_ (i:=5) (N:=some 17) #[true,true,true,true,true,true,true,true,false,false,false,false,false] rfl rfl (one_of HT_.out (by kernel_rfl)) (by decide) (fun K hK=>?_)
       refine goes_ Try.func82 (by kernel_rfl) rfl #[.slice A310_1 ((rd_T65 l0 x8_1).f1).length c310_1] (by rfl) rfl rfl Ya ?_
       with_reducible refine (spec_l1Own.calls _ _ ((rd_T65 l0 x8_1).f1) t312 _ ?side1 ?side2 A5.out).mono ?_
       (case side1=>exact sC HR310_1)
       (case side2=>exact HC310_1.out)
       rintro e w12 ⟨v313,rfl,ho0,hb⟩
       refine ⟨_,rfl,?_⟩
       have n0_:=Aside0.mk (Kd.S_elder' (rS HO_3) (Kd.R_base ho0) hb)
       have n1_:=Aside0.mk (Kd.R_lower ho0 (below_size bH))
       have n2_:=Aside0.mk (blk_below (bB BK311) hb)
       have n3_:=Aside0.mk (below_step bH hb)
       clear HO_3
       clear BK311
       clear HB
       have HO_3:=n0_
       have HO314:=n1_
       have BK311:=n2_
       have HB:=n3_
       clear n0_ n1_ n2_ n3_
       (try clear hb)
       (try clear hb2)
       (try clear hk)
       (try clear hi)
       (try clear ho0)
       refine hK.out _ _ ⟨(blk_cell BK311.out 0).trans rfl,(blk_cell BK311.out 1).trans rfl,(blk_cell BK311.out 2).trans rfl⟩ (fun hHeld=>?_)
       clear hK K
       refine norm_ (a':=?_) ?_ ?_
       rotate_left
       ·show Act.put _ (some 17) _ = _
        simp only [Act.put,List.setIfInBounds_toArray,List.set_cons_zero,List.set_cons_succ,i64_w,i32_w]
        rfl
       refine one_ (i:=8) (N:=some 20) #[true,true,true,true,true,true,true,true,true,false,false,false,false] rfl rfl (one_of HT_.out (by kernel_rfl)) (by decide) (fun K hK=>?_)
       refine goes_ Try.func82 (by kernel_rfl) rfl #[.slice A310_2 ((rd_T65 l0 x8_1).f2).length c310_2] (by rfl) rfl rfl Ya ?_
       with_reducible refine (spec_l1Own.calls _ _ ((rd_T65 l0 x8_1).f2) t315 _ ?side1 ?side2 A6.out).mono ?_
       (case side1=>exact sC HR310_2)
       (case side2=>exact HC310_2.out)
       rintro e w13 ⟨v316,rfl,ho0,hb⟩
       refine ⟨_,rfl,?_⟩
       have n0_:=Aside0.mk (Kd.S_elder' (rS HO_3) (Kd.R_base ho0) hb)
       have n1_:=Aside0.mk (Kd.R_elder' (rR HO314) (Kd.R_base ho0) hb)
       have n2_:=Aside0.mk (Kd.R_lower (Kd.R_new' ho0 (Kd.R_lt (rR HO314))) (below_size bH))
       have n3_:=Aside0.mk (blk_below (bB BK311) hb)
       have n4_:=Aside0.mk (below_step bH hb)
       clear HO_3
       clear HO314
       clear BK311
       clear HB
       have HO_3:=n0_
       have HO314:=n1_
       have HO317:=n2_
       have BK311:=n3_
       have HB:=n4_
       clear n0_ n1_ n2_ n3_ n4_
       (try clear hb)
       (try clear hb2)
       (try clear hk)
       (try clear hi)
       (try clear ho0)
       obtain ⟨Ao14,co14,eo14⟩:=Kd.R_slice HO317.out
       (first|subst eo14|(injection eo14 with f1_ f2_ f3_;have f4_:=f1_.symm;have f5_:=f3_.symm;clear f1_ f2_ f3_;subst f4_;subst f5_))
       obtain ⟨Ao15,co15,eo15⟩:=Kd.R_slice HO314.out
       (first|subst eo15|(injection eo15 with f1_ f2_ f3_;have f4_:=f1_.symm;have f5_:=f3_.symm;clear f1_ f2_ f3_;subst f4_;subst f5_))
       refine hK.out _ _ ⟨(blk_cell BK311.out 0).trans rfl,(blk_cell BK311.out 1).trans rfl,(blk_cell BK311.out 2).trans rfl⟩ (fun hHeld=>?_)
       clear hK K
       refine norm_ (a':=?_) ?_ ?_
       rotate_left
       ·show Act.put _ (some 20) _ = _
        simp only [Act.put,List.setIfInBounds_toArray,List.set_cons_zero,List.set_cons_succ,i64_w,i32_w]
        rfl
       refine pure_ (i:=9) (N:=some 21) (v:=?_) (a':=?_) #[true,true,true,true,true,true,true,true,true,true,false,false,false] rfl rfl (any_of HT_.out (by kernel_rfl)) (fun _ _ _ h=>h) (Or.inl ⟨by rfl,?_⟩) ?_ ?_
       rotate_left
       ·intro w'
        go_simp
        with_reducible rfl
       rotate_left
       ·simp only [Act.put,List.setIfInBounds_toArray,List.set_cons_zero,List.set_cons_succ,i64_w,i32_w]
        rfl
       refine one_ (i:=10) (N:=some 22) #[true,true,true,true,true,true,true,true,true,true,true,false,false] rfl rfl (one_of HT_.out (by kernel_rfl)) (by decide) (fun K hK=>?_)
       refine value_ (w1:=?_) (v:=?_) (by rfl) rfl ?_ ?_
       rotate_left 2
       ·go_simp
        constructor
        ·rfl
        ·rfl
       refine hK.out _ _ ⟨(blk_cell (blk_alloc BK311.out _) 0).trans rfl,(blk_cell (blk_alloc BK311.out _) 1).trans rfl,(blk_cell (blk_alloc BK311.out _) 2).trans rfl⟩ (fun hHeld=>?_)
       clear hK K
       refine norm_ (a':=?_) ?_ ?_
       rotate_left
       ·show Act.put _ (some 22) _ = _
        simp only [Act.put,List.setIfInBounds_toArray,List.set_cons_zero,List.set_cons_succ,i64_w,i32_w]
        rfl
       refine one_ (i:=11) (N:=some 23) #[true,true,true,true,true,true,true,true,true,true,true,true,false] rfl rfl (one_of HT_.out (by kernel_rfl)) (by decide) (fun K hK=>?_)
       refine Kd.S_append_step k65 (w0:=w) w.heap.size (by rfl) (.tmp 12) (.tmp 22) 33 65 (.agg #[(.bool false),(.slice none 0 0),(.slice none 0 0)]) 56 rfl Try.underlying33 info65 rfl (by decide) (by first|decide|omega) u3 x3_1 (⟨(rd_T65 l0 x8_1).f0,t312,t315⟩:S65) [.bool ((rd_T65 l0 x8_1).f0),.slice Ao15 t312.length co15,.slice Ao14 t315.length co14] (fun k_=>k_ ≠ gb311) (fun k_=>some k_ = (.slice Ao15 t312.length co15:Value).ownBlock ∨ some k_ = (.slice Ao14 t315.length co14:Value).ownBlock) rfl rfl ?aP (fun k_ hk_=>hk_.elim (fun h_=>((Kd.R_mono (ok':=fun k_=>((fun k_=>k_ ≠ gb311)) k_ ∧ some k_ ≠ (u3:Value).ownBlock) (Kd.R_types (Kd.R_apart' (HO314.out) (Kd.S_typed HO_3.out) (by decide)) BK311.out (by decide)) (fun k_ hk=>⟨hk.2,hk.1.2⟩))).1 k_ h_.symm) (fun h_=>((Kd.R_mono (ok':=fun k_=>((fun k_=>k_ ≠ gb311)) k_ ∧ some k_ ≠ (u3:Value).ownBlock) (Kd.R_types (Kd.R_apart' (HO317.out) (Kd.S_typed HO_3.out) (by decide)) BK311.out (by decide)) (fun k_ hk=>⟨hk.2,hk.1.2⟩))).1 k_ h_.symm)) ?aF ?aO ?aB ?aS ?aL ?_
       (case aP=>exact k65_mkM _ _ _ (⟨(rd_T65 l0 x8_1).f0,t312,t315⟩:S65) (Kd.R_mono (Kd.R_tight rfl (Kd.R_mono (ok':=fun k_=>((fun k_=>k_ ≠ gb311)) k_ ∧ some k_ ≠ (u3:Value).ownBlock) (Kd.R_types (Kd.R_apart' (HO314.out) (Kd.S_typed HO_3.out) (by decide)) BK311.out (by decide)) (fun k_ hk=>⟨hk.2,hk.1.2⟩))) (fun _ h_=>Or.inl h_)) (Kd.R_mono (Kd.R_tight rfl (Kd.R_mono (ok':=fun k_=>((fun k_=>k_ ≠ gb311)) k_ ∧ some k_ ≠ (u3:Value).ownBlock) (Kd.R_types (Kd.R_apart' (HO317.out) (Kd.S_typed HO_3.out) (by decide)) BK311.out (by decide)) (fun k_ hk=>⟨hk.2,hk.1.2⟩))) (fun _ h_=>Or.inr (h_))))
       (case aB=>exact bH)
       (case aF=>exact (fun k_ hk=>Kd.freshB (bB BK311) k_ hk))
       (case aO=>exact (by (with_reducible repeat (first|apply Kd.S_alloc|apply Kd.S_drewN|apply Kd.S_drew));exact Kd.S_mono HO_3.out (fun k_ hk=>⟨hk.1.1,fun e_=>e_.elim (fun h_=>hk.1.2 h_) (fun h_=>hk.2 h_)⟩)))
       (case aS=>exact (below_size bH))
       (case aL=>have:=LMc7.out;omega)
       intro v319 w16 ho hb hg hat
       rw [← Ny318.out] at ho
       have n0_:=Aside0.mk (blk_grown (bB BK311) hg (Kd.S_away HO_3.out (fun _ hk=>hk.1.1)))
       have n1_:=Aside0.mk (hb)
       have n2_:=Aside0.mk (ho)
       clear BK311
       clear HB
       clear HO_3
       clear HO314
       clear HO317
       have BK311:=n0_
       have HB:=n1_
       have HO320:=n2_
       clear n0_ n1_ n2_
       clear ho hb hg hat
       refine hK.out _ _ ⟨(blk_cell BK311.out 0).trans rfl,(blk_cell BK311.out 1).trans rfl,(blk_cell BK311.out 2).trans rfl⟩ (fun hHeld=>?_)
       clear hK K
       refine norm_ (a':=?_) ?_ ?_
       rotate_left
       ·show Act.put _ (some 23) _ = _
        simp only [Act.put,List.setIfInBounds_toArray,List.set_cons_zero,List.set_cons_succ,i64_w,i32_w]
        rfl
       refine pure_ (i:=12) (N:=some 3) (v:=?_) (a':=?_) #[true,true,true,true,true,true,true,true,true,true,true,true,true] rfl rfl (any_of HT_.out (by kernel_rfl)) (fun _ _ _ h=>h) (Or.inl ⟨by rfl,?_⟩) ?_ ?_
       rotate_left
       ·intro w'
        go_simp
        with_reducible rfl
       rotate_left
       ·simp only [Act.put,List.setIfInBounds_toArray,List.set_cons_zero,List.set_cons_succ,i64_w,i32_w]
        rfl
       refine done_ (done_of HT_.out (by kernel_rfl)) ?_
       try go_wp2
       go_roundg k1
       case measure=>have:=HK1.out;omega
       case rel=>exact ⟨(y318),(wrap64 (x8_1 + 1)),Yb,H',⟨by have:=HK1.out;omega⟩,⟨by (with_reducible repeat (first|apply Kd.S_alloc|apply Kd.S_drewN|apply Kd.S_drew));exact Kd.S_mono HO320.out (fun _ hk=>trivial)⟩,⟨bH⟩⟩
      ·rw [if_neg c7] at H
       exact absurd H (by simp)
     ·rw [if_neg c4] at H
      exact absurd H (by simp)
    ·rw [if_neg c3] at H
     exact absurd H (by simp)
   ·rw [if_neg c2] at H
    have c2b0:decide (x8_1 < (l0.length:Int)) = false:=decide_eq_false c2
    clear c2
    obtain rfl:=Option.some.inj H
    go_wp2
    go_ret
    exact ⟨_,by first|rfl|(simp [errW_none,errW_some] <;> rfl)|(simp [*,errW_none,errW_some] <;> rfl),rS HO_3,bH⟩

end Go.Proofs.Ytlgnanbnicmdaab.QFnExactNormalClause
