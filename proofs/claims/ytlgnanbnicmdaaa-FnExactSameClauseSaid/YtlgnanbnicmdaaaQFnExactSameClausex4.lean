-- Written by this session's own program (wip/x/xprint.py, over the kit's printer); Lean checks it.
import Derived.Test.YtlgnanbnicmdaaaQFnExactSameClausex0
import Derived.Test.YtlgnanbnicmdaaaQFnExactSameClausex3
namespace Go.Proofs.Ytlgnanbnicmdaaa.QFnExactSameClause
open Go.RowKit Go.Proofs.YtlgnanbnicmdaaaW.PrintWords Go.Proofs.YtlgnanbnicmdaaaW.PrintLast Go.Proofs.YtlgnanbnicmdaaaW.PrintMore
attribute [local go_sem] max2_int min2_int max_two min_two max_three min_three max_four min_four   -- for this text's walks alone
set_option linter.unusedVariables false
set_option linter.unusedSimpArgs false

/-! ### spec_l4Rename: function 84, by a walk of this session's own -/
def flatT:List S72 → List (List Int)
  | []=>[]
  | x :: t=>x.f1 :: x.f2 :: flatT t
theorem flat_snoc (l:List S72) (x:S72):flatT (l ++ [x]) = flatT l ++ [x.f1,x.f2]:=by
  induction l with
  | nil=>rfl
  | cons y t ih=>simp only [List.cons_append,flatT,ih]
theorem flat_len (l:List S72):(flatT l).length = 2 * l.length:=by
  induction l with
  | nil=>rfl
  | cons y t ih=>simp only [flatT,List.length_cons,ih];omega
theorem reps2 {α:Type} {R:α → List Value → Prop} {x y:α} {u v:Value} (h1:R x [u]) (h2:R y [v]):Reps R 1 [x,y] [u,v]:=by
  refine ⟨rfl,fun j p hj=>?_⟩
  match j with
  | 0=>cases hj;exact h1
  | 1=>cases hj;exact h2
  | j + 2=>simp at hj
theorem fk_slice {α:Type} {d:Kd α} {e c:Nat} {W:World} {ok:Nat → Prop} {A:Option Addr} {l:List α} (hl:l.length ≤ c) (hf:Kd.F d W ok A l.length l):Kd.FK (Kd.slice e d) W ok l [.slice A l.length c]:=fun W' hW=>⟨A,c,rfl,hl,hf W' hW⟩
def spec_l4Terms.f (l:List S72):Option (List (List Int)):=if l.length ≤ 1048576 then some (flatT l) else none
set_option maxHeartbeats 8000000 in
set_option maxRecDepth 1000000 in
theorem spec_l4Terms.calls (A0:Option Addr) (c0:Nat) (l0:List S72) (r:List (List Int)) (w:World) (hr0:Kd.C k72 w A0 l0.length l0) (hc0:l0.length ≤ c0) (h:spec_l4Terms.f l0 = some r) :
    Calls Try.prog 111 #[.slice A0 l0.length c0] w fun e w'=>∃ v0_:Value,e = .returned v0_ ∧ Kd.N (Kd.slice 3 (Kd.int .i64)) 22 w' w.heap.size (fun _=>True) v0_ r ∧ Below w.heap.size w w':=by
  unfold spec_l4Terms.f at h
  split at h
  rotate_left
  · cases h
  rename_i hn
  obtain rfl:=Option.some.inj h
  have H0:=Aside0.mk hr0
  clear h hr0
  go_enter Try.func111,Try.ntmps111
  go_wp2
  go_loopw [3,8] (fun v3 v8 wr=>∃ j:Nat,j ≤ l0.length ∧ v8 = .int .i64 j ∧ Hid (Kd.N (Kd.slice 3 (Kd.int .i64)) 22 wr w.heap.size (fun _=>True) v3 (flatT (l0.take j))) ∧ Hid (Below w.heap.size w wr)) (fun _ v8 _=>l0.length - (intOf v8).toNat)
  case atStart=>exact ⟨0,Nat.zero_le _,rfl,Kd.N_nil _ _ _ _ _,Below.refl _ _⟩
  case round =>
    obtain ⟨j,hj,rfl,hN,hB⟩:=hrel
    unfold Hid at hN hB
    by_cases hp:j < l0.length
    · obtain ⟨ad,L1,e1,L2,e2,eA,q0,q1,q2,z1,i1,z2,i2⟩:=at_T72 H0.out (j:Int) (by omega) (by omega)
      have hrd:rd_T72 l0 (j:Int) = l0[j]:=by unfold rd_T72;simp [List.getD_eq_getElem?_getD,hp]
      rw [Int.toNat_natCast] at q0 q1 q2
      rw [hrd] at q0 q1 q2 z1 i1 z2 i2
      subst eA
      have htk:l0.take (j + 1) = l0.take j ++ [l0[j]]:=by rw [List.take_succ_eq_append_getElem hp]
      generalize l0[j] = x at htk q0 q1 q2 z1 i1 z2 i2
      replace q0:=(hB.cell (World.block_lt_of_cell? w _ q0)).trans q0
      replace q1:=(hB.cell (World.block_lt_of_cell? w _ q1)).trans q1
      replace q2:=(hB.cell (World.block_lt_of_cell? w _ q2)).trans q2
      have I1:=Aside0.mk (fk_slice (e:=3) z1 (Kd.C_F (Kd.heap_int _) i1))
      have I2:=Aside0.mk (fk_slice (e:=3) z2 (Kd.C_F (Kd.heap_int _) i2))
      have HTK:=Aside0.mk htk
      have HN:=Aside0.mk hN
      have HB:=Aside0.mk hB
      clear hN hB i1 i2 htk hrd z1 z2
      go_upto_region 5 with fail
      have HX:=Aside0.mk (heap_alloc_new wr (.cells #[.bool x.f0,.slice L1 x.f1.length e1,.slice L2 x.f2.length e2] 72))
      have HN:=Aside0.mk (Kd.N_alloc HN.out (.cells #[.bool x.f0,.slice L1 x.f1.length e1,.slice L2 x.f2.length e2] 72))
      have HB:=Aside0.mk (Below.alloc HB.out HB.out.size (.cells #[.bool x.f0,.slice L1 x.f1.length e1,.slice L2 x.f2.length e2] 72))
      clear q0 q1 q2
      obtain ⟨g,hg⟩:∃ g,g = wr.heap.size:=⟨_,rfl⟩
      generalize wr.alloc (.cells #[.bool x.f0,.slice L1 x.f1.length e1,.slice L2 x.f2.length e2] 72) = W1 at HX HN HB ⊢
      rw [← hg] at HX ⊢
      clear hg
      have b1:W1.cell? ⟨g,1,none⟩ = some (.slice L1 x.f1.length e1):=(blk_cell HX.out 1).trans rfl
      have b2:W1.cell? ⟨g,2,none⟩ = some (.slice L2 x.f2.length e2):=(blk_cell HX.out 2).trans rfl
      go_wp2_with (first
        | ((with_reducible refine gate_dst (N:=17) rfl ?_);refine Kd.N_lit (Kd.slice 3 (Kd.int .i64)) (w0:=w) w.heap.size 22 ?hg (N':=17) ?hd (xs:=[x.f1,x.f2]) (inner:=[.slice L1 x.f1.length e1,.slice L2 x.f2.length e2]) (ok:=fun k_=>k_ < w.heap.size ∨ W1.heap.size ≤ k_) (okp:=fun k_=>k_ < w.heap.size) ?hr (reps2 (Kd.FK_below I1.out HB.out) (Kd.FK_below I2.out HB.out)) (fun k_ h=>.inl h) (.inr (Nat.le_refl _)) HB.out HB.out.size (by simp) ?_;(case hd=>rfl);(case hg=>rfl);(case hr=>first|(go_simp;done)|(go_simp;rfl));intro vl Wl hl_ hb hg_ hat_;have HL:=Aside0.mk hl_;have HBl:=Aside0.mk hb;have HN2:=Aside0.mk (Kd.N_grown HN.out hg_ (fun _ _=>by simp));have HNL:=Aside0.mk (Kd.N_lt HN.out);clear hl_ hb hg_ hat_ HN HB;obtain ⟨Al,cl,rfl⟩:=Kd.N_slice HL.out)
        | ((with_reducible refine gate_builtin (b:=.append) (xs:=#[.tmp 12,.tmp 17]) rfl ?_);at_builtin;refine Kd.N_append_rows (Kd.slice 3 (Kd.int .i64)) (w0:=w) w.heap.size rfl (.tmp 12) (.tmp 17) 52 22 (.slice none 0 0) 24 rfl Try.underlying52 info22 rfl (by decide) (by decide) _ (flatT (l0.take j)) [x.f1,x.f2] Al 2 cl (fun _=>True) (fun k_=>k_ < w.heap.size ∨ W1.heap.size ≤ k_) rfl rfl HN2.out (Kd.N_F HL.out) (fun k_ hk=>⟨trivial,fun q_=>by have h1:=Kd.N_base HN2.out k_ q_.symm;have h2:=HNL.out k_ q_.symm;omega⟩) (fun _ _=>trivial) HBl.out HBl.out.size ?aL ?_;(case aL=>rw [flat_len,List.length_take];omega);intro v1 w1 ho hb hg_ hat_;have HO:=Aside0.mk ho;have HBo:=Aside0.mk hb;clear ho hb hg_ hat_))
      go_roundw
      case rel=>exact ⟨j + 1,by omega,rfl,by have:=HO.out;unfold Hid;rw [HTK.out,flat_snoc];exact this,HBo.out⟩
      case measure=>simp [intOf];omega
    · obtain rfl:j = l0.length:=by omega
      rw [List.take_length] at hN
      have HN:=Aside0.mk hN
      have HB:=Aside0.mk hB
      clear hN hB
      go_wp2
      go_ret
      exact ⟨_,rfl,HN.out,HB.out⟩
/-- A clause with other terms. -/
def zipN (l:List S72) (t:List (List Int)):Nat → List S72
  | 0=>[]
  | n + 1=>zipN l t n ++ [⟨(rd_T72 l (n:Int)).f0,rd_L2 t (2 * n:Int),rd_L2 t (2 * n + 1:Int)⟩]
theorem zipN_len (l:List S72) (t:List (List Int)):∀ n,(zipN l t n).length = n:=by
  intro n
  induction n with
  | zero=>rfl
  | succ n ih=>simp [zipN,ih]
theorem w64_ {x:Int} (h0:-9223372036854775808 ≤ x) (h1:x ≤ 9223372036854775807):wrap64 x = x:=by
  unfold wrap64;omega
def spec_l4Rename.f (k:Nat) (l:List S72):Option (List S72):=if l.length ≤ 1048576 then (spec_l2Rename.f k (flatT l)).bind fun t=>if t.length = 2 * l.length then some (zipN l t l.length) else none else none
theorem spec_l4Rename.mono (y0:List S72) (k:Nat):LeO (spec_l4Rename.f k y0) (spec_l4Rename.f (k + 1) y0):=by
  intro r h
  unfold spec_l4Rename.f at h ⊢
  split at h
  rotate_left
  · cases h
  rename_i g
  rw [if_pos g]
  obtain ⟨t,ht,h⟩:=Option.bind_eq_some_iff.1 h
  rw [spec_l2Rename.mono _ k t ht,Option.bind_some]
  exact h
set_option maxHeartbeats 8000000 in
set_option maxRecDepth 1000000 in
theorem spec_l4Rename.calls (k:Nat) (A0:Option Addr) (c0:Nat) (l0:List S72) (r:List S72) (w:World) (hr0:Kd.C k72 w A0 l0.length l0) (hc0:l0.length ≤ c0) (h:spec_l4Rename.f k l0 = some r) :
    Calls Try.prog 84 #[.slice A0 l0.length c0] w fun e w'=>∃ v0_:Value,e = .returned v0_ ∧ Kd.S k72 72 w' w.heap.size (fun _=>True) v0_ r ∧ Below w.heap.size w w':=by
  unfold spec_l4Rename.f at h
  split at h
  rotate_left
  · cases h
  rename_i hn
  obtain ⟨t,ht,h⟩:=Option.bind_eq_some_iff.1 h
  split at h
  rotate_left
  · cases h
  rename_i htl
  obtain rfl:=Option.some.inj h
  have H0:=Aside0.mk hr0
  have HT0:=Aside0.mk ht
  have h1:=spec_l4Terms.calls A0 c0 l0 (flatT l0) w hr0 hc0 (by unfold spec_l4Terms.f;rw [if_pos hn])
  clear h hr0 ht
  go_enter Try.func84,Try.ntmps84
  go_wp2_with (go_at_call 111;refine h1.mono ?_)
  first|rintro e W1 v rfl hr hd|rintro e W1 ⟨v,rfl,hr,hd⟩
  obtain ⟨A1,c1,rfl⟩:=Kd.N_slice hr
  have h2:=spec_l2Rename.calls k A1 c1 (flatT l0) t W1 (Kd.N_reads' hr).2.2 (Kd.N_reads' hr).2.1 HT0.out
  have HB:=Aside0.mk hd
  clear h1 hr hd
  go_wp2_with (go_at_call 110;refine h2.mono ?_)
  first|rintro e W2 v rfl hr hd|rintro e W2 ⟨v,rfl,hr,hd⟩
  obtain ⟨AT,cT,rfl⟩:=Kd.S_slice hr
  obtain ⟨f,hf⟩:=hr
  have HT:=Aside0.mk (Kd.R_mono (Kd.R_bound (Kd.R_lower hf HB.out.size)) (ok':=fun k_=>k_ < W2.heap.size) (fun k_ h=>h.2.2.1))
  have HB:=Aside0.mk (below_step HB.out hd)
  clear h2 hf hd
  go_wp2
  go_loopw [4,12] (fun v4 v12 wr=>∃ j:Nat,j ≤ l0.length ∧ v12 = .int .i64 j ∧ Hid (Kd.S k72 72 wr w.heap.size (fun k_=>W2.heap.size ≤ k_ ∨ f k_ < 2 * j) v4 (zipN l0 t j)) ∧ Hid ((Kd.tag f (Kd.slice 3 (Kd.int .i64))).R 22 wr w.heap.size (fun k_=>k_ < W2.heap.size) (.slice AT t.length cT) t.zipIdx) ∧ Hid (Below w.heap.size w wr) ∧ Hid (W2.heap.size ≤ wr.heap.size)) (fun _ v12 _=>l0.length - (intOf v12).toNat)
  case atStart=>exact ⟨0,Nat.zero_le _,rfl,Kd.S_nil _ _ _ _ _,HT.out,HB.out,Nat.le_refl _⟩
  case round =>
    clear HT HB
    obtain ⟨j,hj,rfl,hO,hT,hB,hSZ⟩:=hrel
    unfold Hid at hO hT hB hSZ
    by_cases hp:j < l0.length
    · obtain ⟨ad,L1,e1,L2,e2,eA,q0,q1,q2,z1,i1,z2,i2⟩:=at_T72 H0.out (j:Int) (by omega) (by omega)
      rw [Int.toNat_natCast] at q0 q1 q2
      subst eA
      have hzip:zipN l0 t (j + 1) = zipN l0 t j ++ [⟨(rd_T72 l0 (j:Int)).f0,rd_L2 t (2 * j:Int),rd_L2 t (2 * j + 1:Int)⟩]:=rfl
      generalize rd_T72 l0 (j:Int) = x at hzip q0 q1 q2 z1 i1 z2 i2
      replace q0:=(hB.cell (World.block_lt_of_cell? w _ q0)).trans q0
      replace q1:=(hB.cell (World.block_lt_of_cell? w _ q1)).trans q1
      replace q2:=(hB.cell (World.block_lt_of_cell? w _ q2)).trans q2
      obtain ⟨gT,capT,eT,_,hgTl,csT,hcT⟩:=Kd.R_form hT (by rw [List.length_zipIdx];omega)
      rw [List.length_zipIdx] at eT
      have HNT:=Aside0.mk (Kd.S_ne hO hcT (by decide):some gT ≠ u4.ownBlock)
      have HNG:Aside0 (some wr.heap.size ≠ u4.ownBlock):=⟨fun q_=>Nat.lt_irrefl _ (Kd.S_lt hO _ q_.symm)⟩
      clear hgTl hcT
      injection eT with eT _ eT2
      subst eT eT2
      obtain ⟨ca,hcla,hMa,hcca,_⟩:=Kd.R_elem hT ([],0) (2 * j:Int) (by omega) (by omega)
      obtain ⟨cb,hclb,hMb,hccb,_⟩:=Kd.R_elem hT ([],0) (2 * j + 1:Int) (by omega) (by omega)
      have za:t.zipIdx.getD (2 * (j:Int)).toNat ([],0) = (rd_L2 t (2 * j:Int),2 * j):=by
        have h9:(2 * (j:Int)).toNat = 2 * j:=by omega
        unfold rd_L2
        rw [h9,List.getD_eq_getElem?_getD,List.getElem?_zipIdx,List.getD_eq_getElem?_getD,List.getElem?_eq_getElem (by omega)]
        simp
      have zb:t.zipIdx.getD (2 * (j:Int) + 1).toNat ([],0) = (rd_L2 t (2 * j + 1:Int),2 * j + 1):=by
        have h9:(2 * (j:Int) + 1).toNat = 2 * j + 1:=by omega
        unfold rd_L2
        rw [h9,List.getD_eq_getElem?_getD,List.getElem?_zipIdx,List.getD_eq_getElem?_getD,List.getElem?_eq_getElem (by omega)]
        simp
      rw [za] at hMa
      rw [zb] at hMb
      obtain ⟨va,rfl,ra⟩:=hMa
      obtain ⟨vb,rfl,rb⟩:=hMb
      have ta:wr.cell? ⟨gT,2 * j,none⟩ = some va:=by
        have:=hcca 0 _ rfl
        rw [show (2 * (j:Int)).toNat * (Kd.tag f (Kd.slice 3 (Kd.int .i64))).sz + 0 = 2 * j by show (2 * (j:Int)).toNat * 1 + 0 = 2 * j;omega] at this
        exact this
      have tb:wr.cell? ⟨gT,2 * j + 1,none⟩ = some vb:=by
        have:=hccb 0 _ rfl
        rw [show (2 * (j:Int) + 1).toNat * (Kd.tag f (Kd.slice 3 (Kd.int .i64))).sz + 0 = 2 * j + 1 by show (2 * (j:Int) + 1).toNat * 1 + 0 = 2 * j + 1;omega] at this
        exact this
      have RA:=Aside0.mk (show (Kd.int .i64).R 3 wr w.heap.size (fun k_=>(k_ < W2.heap.size ∧ k_ ≠ gT) ∧ f k_ = 2 * j) va (rd_L2 t (2 * j:Int)) from ra)
      have RB:=Aside0.mk (show (Kd.int .i64).R 3 wr w.heap.size (fun k_=>(k_ < W2.heap.size ∧ k_ ≠ gT) ∧ f k_ = 2 * j + 1) vb (rd_L2 t (2 * j + 1:Int)) from rb)
      clear hcca hccb ra rb
      obtain ⟨Aa,ca_,rfl⟩:=Kd.R_slice RA.out
      obtain ⟨Ab,cb_,rfl⟩:=Kd.R_slice RB.out
      generalize rd_L2 t (2 * j:Int) = ya at hzip RA ta ⊢
      generalize rd_L2 t (2 * j + 1:Int) = yb at hzip RB tb ⊢
      have HZ:=Aside0.mk hzip
      have HO:=Aside0.mk hO
      have HT:=Aside0.mk hT
      have HB:=Aside0.mk hB
      clear hzip hO hT hB i1 i2 z1 z2
      go_upto_region 6 with fail
      have HX:=Aside0.mk (heap_alloc_new wr (.cells #[.bool x.f0,.slice L1 x.f1.length e1,.slice L2 x.f2.length e2] 72))
      have HO:=Aside0.mk (Kd.S_alloc HO.out (.cells #[.bool x.f0,.slice L1 x.f1.length e1,.slice L2 x.f2.length e2] 72))
      have HT:=Aside0.mk (Kd.R_alloc HT.out (.cells #[.bool x.f0,.slice L1 x.f1.length e1,.slice L2 x.f2.length e2] 72))
      have RA:=Aside0.mk (Kd.R_alloc RA.out (.cells #[.bool x.f0,.slice L1 x.f1.length e1,.slice L2 x.f2.length e2] 72))
      have RB:=Aside0.mk (Kd.R_alloc RB.out (.cells #[.bool x.f0,.slice L1 x.f1.length e1,.slice L2 x.f2.length e2] 72))
      have hbl:=below_alloc (Below.refl wr.heap.size wr) (.cells #[.bool x.f0,.slice L1 x.f1.length e1,.slice L2 x.f2.length e2] 72)
      replace ta:=(hbl.cell (World.block_lt_of_cell? wr _ ta)).trans ta
      replace tb:=(hbl.cell (World.block_lt_of_cell? wr _ tb)).trans tb
      have HB:=Aside0.mk (Below.alloc HB.out HB.out.size (.cells #[.bool x.f0,.slice L1 x.f1.length e1,.slice L2 x.f2.length e2] 72))
      clear q0 q1 q2
      obtain ⟨g,hg⟩:∃ g,g = wr.heap.size:=⟨_,rfl⟩
      have HSZ:=Aside0.mk (Nat.le_trans hSZ hbl.size)
      clear hbl
      generalize wr.alloc (.cells #[.bool x.f0,.slice L1 x.f1.length e1,.slice L2 x.f2.length e2] 72) = W3 at HX HO HT RA RB ta tb HB HSZ ⊢
      rw [← hg] at HX HNG ⊢
      clear hg
      have b0:W3.cell? ⟨g,0,none⟩ = some (.bool x.f0):=(blk_cell HX.out 0).trans rfl
      have hjb:j < 1048576:=by omega
      have hw1:wrap64 (2 * (j:Int)) = 2 * (j:Int):=w64_ (by omega) (by omega)
      have hw2:wrap64 (2 * (j:Int) + 1) = 2 * (j:Int) + 1:=w64_ (by omega) (by omega)
      have hm1:(2 * (j:Int)).toNat = 2 * j:=by omega
      have hm2:(2 * (j:Int) + 1).toNat = 2 * j + 1:=by omega
      have hm3:(0 ≤ 2 * (j:Int)) = True:=eq_true (by omega)
      have hm4:(0 ≤ 2 * (j:Int) + 1) = True:=eq_true (by omega)
      have hm5:(2 * (j:Int) < 2 * (l0.length:Int)) = True:=eq_true (by omega)
      have hm6:(2 * (j:Int) + 1 < 2 * (l0.length:Int)) = True:=eq_true (by omega)
      have hd0:Below W3.heap.size W3 W3.drew:=below_drew1 (Below.refl _ _)
      replace ta:=(hd0.cell (World.block_lt_of_cell? W3 _ ta)).trans ta
      replace tb:=(hd0.cell (World.block_lt_of_cell? W3 _ tb)).trans tb
      replace b0:=(hd0.cell (World.block_lt_of_cell? W3 _ b0)).trans b0
      have HO:=Aside0.mk (Kd.S_drew HO.out)
      have HT:=Aside0.mk (Kd.R_drew HT.out)
      have RA:=Aside0.mk (Kd.R_drew RA.out)
      have RB:=Aside0.mk (Kd.R_drew RB.out)
      have HB:=Aside0.mk (below_drew1 HB.out)
      have HSZ:=Aside0.mk (Nat.le_trans HSZ.out hd0.size)
      clear hd0
      have TA:=Aside0.mk ta
      have TB:=Aside0.mk tb
      have B0:=Aside0.mk b0
      refine start_ (n:=18) (S:=fun w'=>w'.cell? ⟨g,0,none⟩ = some (.bool x.f0) ∧ w'.cell? ⟨gT,2 * j,none⟩ = some (.slice Aa ya.length ca_) ∧ w'.cell? ⟨gT,2 * j + 1,none⟩ = some (.slice Ab yb.length cb_)) (ds:=[]) #[false,false,false,false,false,false,false,false,false,false,false,false,false,false,false,false,false,false] (by kernel_rfl) rfl rfl ⟨b0,ta,tb⟩ (fun hHeld=>?_)
      clear ta tb b0 HX
      generalize W3.drew = W4 at HO HT RA RB HB HSZ TA TB B0 hHeld ⊢
      refine pure_ (i:=0) (N:=(some 17)) (v:=?_) (a':=?_) #[true,false,false,false,false,false,false,false,false,false,false,false,false,false,false,false,false,false] rfl rfl (by kernel_rfl) (fun _ _ _ h=>h) (Or.inl ⟨by rfl,?_⟩) ?_ ?_
      rotate_left
      · intro w'
        go_simp
        with_reducible rfl
      rotate_left
      · simp only [Act.put,List.setIfInBounds_toArray,List.set_cons_zero,List.set_cons_succ,i64_w,i32_w]
        rfl
      refine pure_ (i:=1) (N:=(some 18)) (v:=?_) (a':=?_) #[true,true,false,false,false,false,false,false,false,false,false,false,false,false,false,false,false,false] rfl rfl (by kernel_rfl) (fun _ _ _ h=>h) (Or.inl ⟨by rfl,?_⟩) ?_ ?_
      rotate_left
      · intro w'
        go_simp
        with_reducible rfl
      rotate_left
      · simp only [Act.put,List.setIfInBounds_toArray,List.set_cons_zero,List.set_cons_succ,i64_w,i32_w]
        rfl
      refine take_ (i:=2) (N:=(some 19)) (v:=?_) (a':=?_) #[true,true,true,false,false,false,false,false,false,false,false,false,false,false,false,false,false,false] rfl rfl (by kernel_rfl) (fun _ _ _ h=>h) (Or.inl ⟨by rfl,?_⟩) hHeld ?_ ?_
      rotate_left
      · intro w' ⟨s0,s1,s2⟩
        go_simp
        with_reducible rfl
      rotate_left
      · simp only [Act.put,List.setIfInBounds_toArray,List.set_cons_zero,List.set_cons_succ,i64_w,i32_w]
        rfl
      refine pure_ (i:=3) (N:=(some 20)) (v:=?_) (a':=?_) #[true,true,true,true,false,false,false,false,false,false,false,false,false,false,false,false,false,false] rfl rfl (by kernel_rfl) (fun _ _ _ h=>h) (Or.inl ⟨by rfl,?_⟩) ?_ ?_
      rotate_left
      · intro w'
        go_simp
        with_reducible rfl
      rotate_left
      · simp only [Act.put,List.setIfInBounds_toArray,List.set_cons_zero,List.set_cons_succ,i64_w,i32_w]
        rfl
      refine pure_ (i:=4) (N:=(some 21)) (v:=?_) (a':=?_) #[true,true,true,true,true,false,false,false,false,false,false,false,false,false,false,false,false,false] rfl rfl (by kernel_rfl) (fun _ _ _ h=>h) (Or.inl ⟨by rfl,?_⟩) ?_ ?_
      rotate_left
      · intro w'
        go_simp
        with_reducible rfl
      rotate_left
      · simp only [Act.put,List.setIfInBounds_toArray,List.set_cons_zero,List.set_cons_succ,i64_w,i32_w]
        rfl
      refine pure_ (i:=5) (N:=(some 22)) (v:=?_) (a':=?_) #[true,true,true,true,true,true,false,false,false,false,false,false,false,false,false,false,false,false] rfl rfl (by kernel_rfl) (fun _ _ _ h=>h) (Or.inl ⟨by rfl,?_⟩) ?_ ?_
      rotate_left
      · intro w'
        go_simp
        with_reducible rfl
      rotate_left
      · simp only [Act.put,List.setIfInBounds_toArray,List.set_cons_zero,List.set_cons_succ,i64_w,i32_w]
        rfl
      refine pure_ (i:=6) (N:=(some 23)) (v:=?_) (a':=?_) #[true,true,true,true,true,true,true,false,false,false,false,false,false,false,false,false,false,false] rfl rfl (by kernel_rfl) (fun _ _ _ h=>h) (Or.inl ⟨by rfl,?_⟩) ?_ ?_
      rotate_left
      · intro w'
        go_simp
        with_reducible rfl
      rotate_left
      · simp only [Act.put,List.setIfInBounds_toArray,List.set_cons_zero,List.set_cons_succ,i64_w,i32_w]
        rfl
      refine take_ (i:=7) (N:=(some 24)) (v:=?_) (a':=?_) #[true,true,true,true,true,true,true,true,false,false,false,false,false,false,false,false,false,false] rfl rfl (by kernel_rfl) (fun _ _ _ h=>h) (Or.inl ⟨by rfl,?_⟩) hHeld ?_ ?_
      rotate_left
      · intro w' ⟨s0,s1,s2⟩
        go_simp
        with_reducible rfl
      rotate_left
      · simp only [Act.put,List.setIfInBounds_toArray,List.set_cons_zero,List.set_cons_succ,i64_w,i32_w]
        rfl
      refine pure_ (i:=8) (N:=(some 25)) (v:=?_) (a':=?_) #[true,true,true,true,true,true,true,true,true,false,false,false,false,false,false,false,false,false] rfl rfl (by kernel_rfl) (fun _ _ _ h=>h) (Or.inl ⟨by rfl,?_⟩) ?_ ?_
      rotate_left
      · intro w'
        go_simp
        with_reducible rfl
      rotate_left
      · simp only [Act.put,List.setIfInBounds_toArray,List.set_cons_zero,List.set_cons_succ,i64_w,i32_w]
        rfl
      refine pure_ (i:=9) (N:=(some 26)) (v:=?_) (a':=?_) #[true,true,true,true,true,true,true,true,true,true,false,false,false,false,false,false,false,false] rfl rfl (by kernel_rfl) (fun _ _ _ h=>h) (Or.inl ⟨by rfl,?_⟩) ?_ ?_
      rotate_left
      · intro w'
        go_simp
        with_reducible rfl
      rotate_left
      · simp only [Act.put,List.setIfInBounds_toArray,List.set_cons_zero,List.set_cons_succ,i64_w,i32_w]
        rfl
      refine pure_ (i:=10) (N:=(some 27)) (v:=?_) (a':=?_) #[true,true,true,true,true,true,true,true,true,true,true,false,false,false,false,false,false,false] rfl rfl (by kernel_rfl) (fun _ _ _ h=>h) (Or.inl ⟨by rfl,?_⟩) ?_ ?_
      rotate_left
      · intro w'
        go_simp
        with_reducible rfl
      rotate_left
      · simp only [Act.put,List.setIfInBounds_toArray,List.set_cons_zero,List.set_cons_succ,i64_w,i32_w]
        rfl
      refine pure_ (i:=11) (N:=(some 28)) (v:=?_) (a':=?_) #[true,true,true,true,true,true,true,true,true,true,true,true,false,false,false,false,false,false] rfl rfl (by kernel_rfl) (fun _ _ _ h=>h) (Or.inl ⟨by rfl,?_⟩) ?_ ?_
      rotate_left
      · intro w'
        go_simp
        with_reducible rfl
      rotate_left
      · simp only [Act.put,List.setIfInBounds_toArray,List.set_cons_zero,List.set_cons_succ,i64_w,i32_w]
        rfl
      refine pure_ (i:=12) (N:=(some 29)) (v:=?_) (a':=?_) #[true,true,true,true,true,true,true,true,true,true,true,true,true,false,false,false,false,false] rfl rfl (by kernel_rfl) (fun _ _ _ h=>h) (Or.inl ⟨by rfl,?_⟩) ?_ ?_
      rotate_left
      · intro w'
        go_simp
        with_reducible rfl
      rotate_left
      · simp only [Act.put,List.setIfInBounds_toArray,List.set_cons_zero,List.set_cons_succ,i64_w,i32_w]
        rfl
      refine take_ (i:=13) (N:=(some 30)) (v:=?_) (a':=?_) #[true,true,true,true,true,true,true,true,true,true,true,true,true,true,false,false,false,false] rfl rfl (by kernel_rfl) (fun _ _ _ h=>h) (Or.inl ⟨by rfl,?_⟩) hHeld ?_ ?_
      rotate_left
      · intro w' ⟨s0,s1,s2⟩
        go_simp
        with_reducible rfl
      rotate_left
      · simp only [Act.put,List.setIfInBounds_toArray,List.set_cons_zero,List.set_cons_succ,i64_w,i32_w]
        rfl
      refine pure_ (i:=14) (N:=(some 31)) (v:=?_) (a':=?_) #[true,true,true,true,true,true,true,true,true,true,true,true,true,true,true,false,false,false] rfl rfl (by kernel_rfl) (fun _ _ _ h=>h) (Or.inl ⟨by rfl,?_⟩) ?_ ?_
      rotate_left
      · intro w'
        go_simp
        with_reducible rfl
      rotate_left
      · simp only [Act.put,List.setIfInBounds_toArray,List.set_cons_zero,List.set_cons_succ,i64_w,i32_w]
        rfl
      refine one_ (i:=15) (N:=(some 32)) #[true,true,true,true,true,true,true,true,true,true,true,true,true,true,true,true,false,false] rfl rfl (by kernel_rfl) (by decide) (fun K hK=>?_)
      refine value_ (w1:=?_) (v:=?_) (by rfl) rfl ?_ ?_
      rotate_left 2
      · go_simp
        constructor
        · rfl
        · rfl
      refine hK.out _ _ ⟨(below_alloc (Below.refl _ _) _).cell (World.block_lt_of_cell? _ _ hHeld.1) |>.trans hHeld.1,(below_alloc (Below.refl _ _) _).cell (World.block_lt_of_cell? _ _ hHeld.2.1) |>.trans hHeld.2.1,(below_alloc (Below.refl _ _) _).cell (World.block_lt_of_cell? _ _ hHeld.2.2) |>.trans hHeld.2.2⟩ (fun hHeld=>?_)
      clear hK K
      refine norm_ (a':=?_) ?_ ?_
      rotate_left
      · show Act.put _ (some 32) _ = _
        simp only [Act.put,List.setIfInBounds_toArray,List.set_cons_zero,List.set_cons_succ,i64_w,i32_w]
        rfl
      refine one_ (i:=16) (N:=(some 33)) #[true,true,true,true,true,true,true,true,true,true,true,true,true,true,true,true,true,false] rfl rfl (by kernel_rfl) (by decide) (fun K hK=>?_)
      have hW2:W2.heap.size ≤ W4.heap.size:=HSZ.out
      refine Kd.S_append_step k72 (w0:=w) w.heap.size (by rfl) (.tmp 17) (.tmp 32) 32 72 (.agg #[.bool false,.slice none 0 0,.slice none 0 0]) 56 rfl Try.underlying32 info72 rfl (by decide) (by decide) u4 (zipN l0 t j) (⟨x.f0,ya,yb⟩:S72) [.bool x.f0,.slice Aa ya.length ca_,.slice Ab yb.length cb_] (fun k_=>W2.heap.size ≤ k_ ∨ f k_ < 2 * (j + 1)) (fun k_=>(k_ < W2.heap.size ∧ (f k_ = 2 * j ∨ f k_ = 2 * j + 1)) ∧ some k_ ≠ u4.ownBlock) rfl rfl (k72_mkM _ _ _ (⟨x.f0,ya,yb⟩:S72) (Kd.R_mono (Kd.R_apart' RA.out (Kd.S_typed HO.out) (by decide)) (fun k_ h=>⟨⟨h.1.1.1,.inl h.1.2⟩,h.2⟩)) (Kd.R_mono (Kd.R_apart' RB.out (Kd.S_typed HO.out) (by decide)) (fun k_ h=>⟨⟨h.1.1.1,.inr h.1.2⟩,h.2⟩))) (fun k_ hk=>⟨.inr (by have:=hk.1.2;omega),hk.2⟩) (fun k_ hk=>.inl (Nat.le_trans hW2 hk)) (Kd.S_mono HO.out (fun k_ h=>⟨h.elim .inl (fun h=>.inr (by omega)),fun q_=>by have h1:=q_.1.1;have h2:=q_.1.2;omega⟩)) HB.out HB.out.size (by rw [zipN_len];omega) ?_
      intro v1 w1 ho hb hg_ hat_
      have HT2:=Aside0.mk (Kd.R_over' HT.out (Kd.S_typed HO.out) (by show ∀ q,q ∈ 22 :: (Kd.slice 3 (Kd.int .i64)).E → q ≠ 72;decide) hg_)
      have HO2:=Aside0.mk ho
      have HB2:=Aside0.mk hb
      have HSZ2:=Aside0.mk (Nat.le_trans hW2 hg_.size)
      have eT1:=hg_.block gT (World.block_lt_of_cell? _ _ TA.out) HNT.out
      have eG1:=hg_.block g (World.block_lt_of_cell? _ _ B0.out) HNG.out
      have c0:w1.cell? ⟨g,0,none⟩ = some (.bool x.f0):=by have:=B0.out;unfold World.cell? at this ⊢;rw [eG1];exact this
      have c1:w1.cell? ⟨gT,2 * j,none⟩ = some (.slice Aa ya.length ca_):=by have:=TA.out;unfold World.cell? at this ⊢;rw [eT1];exact this
      have c2:w1.cell? ⟨gT,2 * j + 1,none⟩ = some (.slice Ab yb.length cb_):=by have:=TB.out;unfold World.cell? at this ⊢;rw [eT1];exact this
      clear ho hb hg_ hat_ eT1 eG1 hHeld
      refine hK.out _ _ ⟨c0,c1,c2⟩ (fun hHeld=>?_)
      clear hK K
      refine norm_ (a':=?_) ?_ ?_
      rotate_left
      · show Act.put _ (some 33) _ = _
        simp only [Act.put,List.setIfInBounds_toArray,List.set_cons_zero,List.set_cons_succ,i64_w,i32_w]
        rfl
      clear c0 c1 c2
      refine pure_ (i:=17) (N:=(some 4)) (v:=?_) (a':=?_) #[true,true,true,true,true,true,true,true,true,true,true,true,true,true,true,true,true,true] rfl rfl (by kernel_rfl) (fun _ _ _ h=>h) (Or.inl ⟨by rfl,?_⟩) ?_ ?_
      rotate_left
      · intro w'
        go_simp
        with_reducible rfl
      rotate_left
      · simp only [Act.put,List.setIfInBounds_toArray,List.set_cons_zero,List.set_cons_succ,i64_w,i32_w]
        rfl
      clear hHeld
      refine done_ (by kernel_rfl) ?_
      go_wp2
      go_roundw
      case rel=>exact ⟨j + 1,hp,rfl,by have:=HO2.out;unfold Hid;rw [HZ.out];exact this,HT2.out,HB2.out,HSZ2.out⟩
      case measure=>simp [intOf];omega
    · obtain rfl:j = l0.length:=by omega
      have HO:=Aside0.mk hO
      have HB:=Aside0.mk hB
      clear hO hB hT
      go_wp2
      go_ret
      exact ⟨_,rfl,Kd.S_mono HO.out (fun _ _=>trivial),HB.out⟩

/-! ### spec_l1Same: function 85 -/
def spec_l1Same.l0:Nat → List Int → List Int → Int → Int → Option (Bool)
 | 0,_,_,_,_=>none
 | k + 1,x0,x1,x12,x13=>if x13 < x12 then (if 0 ≤ x13 then (if x13 < (x0.length:Int) then (if x13 < (x1.length:Int) then (if (rd x0 x13) = (rd x1 x13) then (spec_l1Same.l0 k x0 x1 x12 (wrap64 (x13 + 1))) else (some false)) else (none)) else (none)) else (none)) else (some true)
def spec_l1Same.f (k:Nat) (l0:List Int) (l1:List Int):Option (Bool):=if (l0.length:Int) = (l1.length:Int) then (spec_l1Same.l0 k l0 l1 (l0.length:Int) 0) else (some false)
theorem spec_l1Same.mono_l:∀ k,(∀ y0 y1 y2 y3,LeO (spec_l1Same.l0 k y0 y1 y2 y3) (spec_l1Same.l0 (k + 1) y0 y1 y2 y3))
 | 0=>fun _ _ _ _ r h=>by simp [spec_l1Same.l0] at h
 | k + 1=>by
  have ih0:=spec_l1Same.mono_l k
  ·intro y0 y1 y2 y3
   unfold spec_l1Same.l0
   repeat' first
   | (with_reducible exact ih0 _ _ _ _)
   | (with_reducible exact LeO.refl _)
   | (with_reducible exact LeO.none _)
   | (with_reducible refine LeO.ite ?_ ?_)
   | (with_reducible refine LeO.bind ?_ (fun _=>?_))
   | exact ih0 _ _ _ _
   | exact LeO.none _
   | refine LeO.ite ?_ ?_
   | refine LeO.bind ?_ (fun _=>?_)
theorem spec_l1Same.mono:∀ a0 a1 k,LeO (spec_l1Same.f k a0 a1) (spec_l1Same.f (k + 1) a0 a1):=by
 intro a0 a1 k
 have ih0:=spec_l1Same.mono_l k
 unfold spec_l1Same.f
 repeat' first
   | (with_reducible exact ih0 _ _ _ _)
   | (with_reducible exact LeO.refl _)
   | (with_reducible exact LeO.none _)
   | (with_reducible refine LeO.ite ?_ ?_)
   | (with_reducible refine LeO.bind ?_ (fun _=>?_))
   | exact ih0 _ _ _ _
   | exact LeO.none _
   | refine LeO.ite ?_ ?_
   | refine LeO.bind ?_ (fun _=>?_)
set_option maxHeartbeats 8000000 in
set_option maxRecDepth 100000 in
theorem spec_l1Same.calls (k:Nat) (A0:Option Addr) (c0:Nat) (l0:List Int) (A1:Option Addr) (c1:Nat) (l1:List Int) (r:Bool) (w:World) (hr0:Kd.C (Kd.int .i64) w A0 l0.length l0) (hc0:l0.length ≤ c0) (hr1:Kd.C (Kd.int .i64) w A1 l1.length l1) (hc1:l1.length ≤ c1) (h:spec_l1Same.f k l0 l1 = some r) :
  Calls Try.prog 85 #[.slice A0 l0.length c0,.slice A1 l1.length c1] w fun e w'=>e = .returned (.bool r) ∧ Drawn0 w w':=by
 have HR0:=Aside0.mk hr0
 have HC0:=Aside0.mk hc0
 clear hr0 hc0
 have HR1:=Aside0.mk hr1
 have HC1:=Aside0.mk hc1
 clear hr1 hc1
 have H:(if (l0.length:Int) = (l1.length:Int) then (spec_l1Same.l0 k l0 l1 (l0.length:Int) 0) else (some false)) = some r:=h
 clear h
 by_cases c3:(l0.length:Int) = (l1.length:Int)
 ·rw [if_pos c3] at H
  have c3b0:((l0.length:Int) == (l1.length:Int)) = true:=beq_iff_eq.mpr c3
  have c3b1:((l0.length:Int) != (l1.length:Int)) = false:=bne_eq_false_iff_eq.mpr c3
  have c3b2:(l0.length == l1.length) = true:=by first|simpa using c3|(simp at c3 ⊢;omega)
  clear c3
  have H':=Aside0.mk H
  clear H
  go_enter Try.func85,Try.ntmps85
  go_wp2
  repeat (go_quiet (fail);try go_wp2)
  go_loopg [13] k (fun kq v13 w'=>∃ (x13_1:Int),v13 = .int .i64 x13_1 ∧ Aside0 (spec_l1Same.l0 kq l0 l1 (l0.length:Int) x13_1 = some r) ∧ Aside0 (kq ≤ k) ∧ Drawn0 w w')
  case atStart=>exact ⟨(0),(by first|rfl|(simp;done)|(simp [*];done)),H',⟨Nat.le_refl _⟩,by repeat (first|exact Drawn0.refl _|apply Drawn0.step)⟩
  case round =>
   clear H'
   try clear c1
   try clear p2
   try clear c3
   try clear c3b0
   try clear c3b1
   try clear c3b2
   obtain ⟨x13_1,rfl,HA,HK1,⟨m1,rfl⟩⟩:=hrel
   cases gk with
   | zero=>exact absurd HA.out (by simp [spec_l1Same.l0])
   | succ k1 =>
    have H:=HA.out
    clear HA
    simp only [spec_l1Same.l0] at H
    by_cases c4:x13_1 < (l0.length:Int)
    ·rw [if_pos c4] at H
     have c4b0:decide (x13_1 < (l0.length:Int)) = true:=decide_eq_true c4
     clear c4
     by_cases c5:0 ≤ x13_1
     ·rw [if_pos c5] at H
      have c5b0:decide (0 ≤ x13_1) = true:=decide_eq_true c5
      clear c5
      by_cases c6:x13_1 < (l0.length:Int)
      ·rw [if_pos c6] at H
       have c6b0:decide (x13_1 < (l0.length:Int)) = true:=decide_eq_true c6
       clear c6
       by_cases c7:x13_1 < (l1.length:Int)
       ·rw [if_pos c7] at H
        have c7b0:decide (x13_1 < (l1.length:Int)) = true:=decide_eq_true c7
        clear c7
        by_cases c8:(rd l0 x13_1) = (rd l1 x13_1)
        ·rw [if_pos c8] at H
         have c8b0:((rd l0 x13_1) == (rd l1 x13_1)) = true:=beq_iff_eq.mpr c8
         have c8b1:((rd l0 x13_1) != (rd l1 x13_1)) = false:=bne_eq_false_iff_eq.mpr c8
         clear c8
         have H':=Aside0.mk H
         clear H
         have p151:0 ≤ (x13_1:Int):=of_decide_eq_true (by first|(with_reducible assumption)|assumption)
         have q151:x13_1 < (l0.length:Int):=of_decide_eq_true (by first|(with_reducible assumption)|assumption)
         obtain ⟨ad151,e151,hx151_0⟩:=Kd.at_int HR0.out x13_1 p151 q151
         cases e151
         replace p151:=eq_true p151
         replace q151:=eq_true q151
         have p152:0 ≤ (x13_1:Int):=of_decide_eq_true (by first|(with_reducible assumption)|assumption)
         have q152:x13_1 < (l1.length:Int):=of_decide_eq_true (by first|(with_reducible assumption)|assumption)
         obtain ⟨ad152,e152,hx152_0⟩:=Kd.at_int HR1.out x13_1 p152 q152
         cases e152
         replace p152:=eq_true p152
         replace q152:=eq_true q152
         go_wp2
         repeat (go_quiet (fail);try go_wp2)
         go_roundg k1
         case measure=>have:=HK1.out;omega
         case rel=>exact ⟨(wrap64 (x13_1 + 1)),(by first|rfl|(simp;done)|(simp [*];done)),H',⟨by have:=HK1.out;omega⟩,by repeat (first|exact Drawn0.refl _|apply Drawn0.step)⟩
        ·rw [if_neg c8] at H
         have c8b0:((rd l0 x13_1) == (rd l1 x13_1)) = false:=beq_eq_false_iff_ne.mpr c8
         have c8b1:((rd l0 x13_1) != (rd l1 x13_1)) = true:=bne_iff_ne.mpr c8
         obtain rfl:=Option.some.inj H
         have p151:0 ≤ (x13_1:Int):=of_decide_eq_true (by first|(with_reducible assumption)|assumption)
         have q151:x13_1 < (l0.length:Int):=of_decide_eq_true (by first|(with_reducible assumption)|assumption)
         obtain ⟨ad151,e151,hx151_0⟩:=Kd.at_int HR0.out x13_1 p151 q151
         cases e151
         replace p151:=eq_true p151
         replace q151:=eq_true q151
         have p152:0 ≤ (x13_1:Int):=of_decide_eq_true (by first|(with_reducible assumption)|assumption)
         have q152:x13_1 < (l1.length:Int):=of_decide_eq_true (by first|(with_reducible assumption)|assumption)
         obtain ⟨ad152,e152,hx152_0⟩:=Kd.at_int HR1.out x13_1 p152 q152
         cases e152
         replace p152:=eq_true p152
         replace q152:=eq_true q152
         go_wp2
         repeat (go_quiet (fail);try go_wp2)
         go_ret
         exact ⟨by first|rfl|(simp;done)|(simp [*];done),by repeat (first|exact Drawn0.refl _|apply Drawn0.step)⟩
       ·rw [if_neg c7] at H
        exact absurd H (by simp)
      ·rw [if_neg c6] at H
       exact absurd H (by simp)
     ·rw [if_neg c5] at H
      exact absurd H (by simp)
    ·rw [if_neg c4] at H
     have c4b0:decide (x13_1 < (l0.length:Int)) = false:=decide_eq_false c4
     clear c4
     obtain rfl:=Option.some.inj H
     go_wp2
     repeat (go_quiet (fail);try go_wp2)
     go_ret
     exact ⟨by first|rfl|(simp;done)|(simp [*];done),by repeat (first|exact Drawn0.refl _|apply Drawn0.step)⟩
 ·rw [if_neg c3] at H
  have c3b0:((l0.length:Int) == (l1.length:Int)) = false:=beq_eq_false_iff_ne.mpr c3
  have c3b1:((l0.length:Int) != (l1.length:Int)) = true:=bne_iff_ne.mpr c3
  have c3b2:(l0.length == l1.length) = false:=by first|simpa using c3|(simp at c3 ⊢;omega)
  obtain rfl:=Option.some.inj H
  go_enter Try.func85,Try.ntmps85
  go_wp2
  repeat (go_quiet (fail);try go_wp2)
  go_ret
  exact ⟨by first|rfl|(simp;done)|(simp [*];done),by repeat (first|exact Drawn0.refl _|apply Drawn0.step)⟩

end Go.Proofs.Ytlgnanbnicmdaaa.QFnExactSameClause
