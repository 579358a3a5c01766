-- Written by this session's own program (wip/x/xprint.py, over the kit's printer); Lean checks it.
import Derived.Test.YtlgnanbnicmdaabQFnExactNormalClausex0
import Derived.Test.YtlgnanbnicmdaabQFnExactNormalClausex8
import Derived.Test.YtlgnanbnicmdaabQFnExactNormalClausex10
import Derived.Test.YtlgnanbnicmdaabQFnExactNormalClausex15
import Derived.Test.YtlgnanbnicmdaabQFnExactNormalClausex16
namespace Go.Proofs.Ytlgnanbnicmdaab.QFnExactNormalClause
open Go.RowKit Go.Proofs.YtlgnanbnicmdaabW.PrintWords Go.Proofs.YtlgnanbnicmdaabW.PrintLast Go.Proofs.YtlgnanbnicmdaabW.PrintMore
attribute [local go_sem] max2_int min2_int max_two min_two max_three min_three max_four min_four   -- for this text's walks alone
set_option linter.unusedVariables false
set_option linter.unusedSimpArgs false

/-! ### impl_NormalClause: function 28, by a walk of this session's own -/
/-- An element of a row whose elements lie apart: its blocks; what becomes of the row if just these are written, or one of the element's own cells. -/
theorem S_at {α:Type} {d:Kd α} {e:Nat} {w:World} {base:Nat} {ok:Nat → Prop} {g n cap:Nat} {xs:List α} (h:Kd.S d e w base ok (.slice (some ⟨g,0,none⟩) n cap) xs) (i:Nat) (x:α) (hx:xs[i]? = some x) :
    ∃ (oki:Nat → Prop) (c:List Value),c.length = d.sz ∧ d.M w base oki x c ∧ (∀ j u,c[j]? = some u → w.cell? ⟨g,i * d.sz + j,none⟩ = some u) ∧ (∀ j,w.frozen? ⟨g,i * d.sz + j,none⟩ = false) ∧ (∀ k,oki k → ok k ∧ k ≠ g) ∧
      (∀ (w1:World) (x':α),Kept w w1 oki → d.M w1 base oki x' c → Kd.S d e w1 base ok (.slice (some ⟨g,0,none⟩) n cap) (xs.set i x')) ∧
      (∀ (t:Nat) (u:Value) (x':α),t + 1 ≤ d.sz → d.M w base oki x' (c.take t ++ [u] ++ c.drop (t + 1)) → Kd.S d e (w.setCells g (i * d.sz + t) [u]) base ok (.slice (some ⟨g,0,none⟩) n cap) (xs.set i x')):=by
  obtain ⟨hil,hxe⟩:=List.getElem?_eq_some_iff.1 hx
  have hn:=(Kd.S_reads' h).1
  obtain ⟨oki,c,hcl,hM,hcc,hfr,hoki,hH⟩:=Kd.S_elem h x (i:Int) (by omega) (by omega)
  rw [Int.toNat_natCast] at hM hcc hfr
  have e1:xs.getD i x = x:=by rw [List.getD_eq_getElem?_getD,hx];rfl
  rw [e1] at hM
  refine ⟨oki,c,hcl,hM,hcc,hfr,hoki,fun w1 x' hk hM1=>?_,fun t u x' ht hM1=>?_⟩
  · have:=Kd.H_back (Kd.H_kept hH hk (fun k _ hn=>hn)) hM1 (fun _ hk=>hk)
    rwa [Int.toNat_natCast] at this
  · have:=(Kd.S_seg (okg:=fun _=>False) (ok:=ok) (by
        obtain ⟨h1,f,h2⟩:=hH
        exact ⟨fun k hk=>⟨h1 k hk,fun q=>q⟩,f,Kd.R_mono h2 (fun k hk=>⟨⟨hk.1,fun q=>q⟩,hk.2⟩)⟩) (i:=(i:Int)) (by omega) (by omega) (seg:=[u]) (j:=t) (by simpa using ht) (okp:=oki) (x':=x') (by simpa using hM1) (fun k hk=>.inl hk) (fun k hk=>hk.elim)).1
    rwa [Int.toNat_natCast] at this
/-! ### Literals whose rows lie apart -/
def aLit:Kd S65 where
  sz:=3
  E:=[3]
  K:=fun w x cs=>k65.K w x cs
  M:=fun w base ok x cs=>∃ (q:Nat → Prop) (v1 v2:Value),cs = [.bool x.f0,v1,v2] ∧ (Kd.int .i64).R 3 w base (fun k=>ok k ∧ q k) v1 x.f1 ∧ (Kd.int .i64).R 3 w base (fun k=>ok k ∧ ¬ q k) v2 x.f2
  K_len:=fun h=>k65.K_len h
  K_one:=fun h=>k65.K_one h
  K_below:=fun hb h=>k65.K_below hb h
  K_of_M:=by
    rintro w base ok x cs ⟨q,v1,v2,rfl,h1,h2⟩
    exact k65.K_of_M (k65_mkM w base ok x (Kd.R_mono h1 (fun _ h=>h.1)) (Kd.R_mono h2 (fun _ h=>h.1)))
  M_mono:=by
    rintro w base ok ok' x cs hok ⟨q,v1,v2,rfl,h1,h2⟩
    exact ⟨q,v1,v2,rfl,Kd.R_mono h1 (fun k h=>⟨hok k h.1,h.2⟩),Kd.R_mono h2 (fun k h=>⟨hok k h.1,h.2⟩)⟩
  M_bound:=by
    rintro w base ok x cs ⟨q,v1,v2,rfl,h1,h2⟩
    refine ⟨q,v1,v2,rfl,Kd.R_mono (Kd.R_bound h1) (fun k h=>⟨⟨h.1.1,h.2.1,h.2.2.1,?_⟩,h.1.2⟩),Kd.R_mono (Kd.R_bound h2) (fun k h=>⟨⟨h.1.1,h.2.1,h.2.2.1,?_⟩,h.1.2⟩)⟩
    · obtain ⟨e,he,cells,hc⟩:=h.2.2.2
      exact ⟨e,by simpa [Kd.int,Kd.scalar] using he,cells,hc⟩
    · obtain ⟨e,he,cells,hc⟩:=h.2.2.2
      exact ⟨e,by simpa [Kd.int,Kd.scalar] using he,cells,hc⟩
  M_move:=by
    rintro w w1 base ok x cs hm ⟨q,v1,v2,rfl,h1,h2⟩
    exact ⟨q,v1,v2,rfl,Kd.R_move h1 (fun k h=>hm k h.1),Kd.R_move h2 (fun k h=>hm k h.1)⟩
  M_lower:=by
    rintro w base base' ok x cs hb ⟨q,v1,v2,rfl,h1,h2⟩
    exact ⟨q,v1,v2,rfl,Kd.R_lower h1 hb,Kd.R_lower h2 hb⟩
/-! ### New names for variables: the names met, in order; the map that holds them -/
theorem nodup_rev {met:List Int} (h:met.Nodup):met.reverse.Nodup:=by
  unfold List.Nodup at h ⊢
  rw [List.pairwise_reverse]
  exact h.imp (fun a=>Ne.symm a)
def rnT:List Int → List Int → List Int × List Int
  | met,[]=>(met,[])
  | met,n :: t=>if 0 ≤ n then ((rnT met t).1,n :: (rnT met t).2) else ((rnT (if n ∈ met then met else met ++ [n]) t).1,(-1 - (((if n ∈ met then met else met ++ [n]).idxOf n:Nat):Int)) :: (rnT (if n ∈ met then met else met ++ [n]) t).2)
def rnL:List Int → List (List Int) → List (List Int)
  | _,[]=>[]
  | met,x :: t=>(rnT met x).2 :: rnL (rnT met x).1 t
open Go.Maps in
def MdR:List Int → DataW Unit
  | []=>.map []
  | n :: t=>(MdR t).put (.int .i64 n) (.lit (.int .i64 (-1 - (t.length:Int))))
def Md (met:List Int):DataW Unit:=MdR met.reverse
theorem Md_snoc (met:List Int) (n:Int):Md (met ++ [n]) = (Md met).put (.int .i64 n) (.lit (.int .i64 (-1 - (met.length:Int)))):=by
  unfold Md
  rw [List.reverse_append,List.reverse_singleton,List.singleton_append,MdR,List.length_reverse]
open Go.Maps in
theorem MdR_tidy (t:List Int):Tidy (MdR t):=by
  induction t with
  | nil=>exact tidy_empty
  | cons n t ih=>exact ih.put (by simp [WideAt.IsKeyLit]) _
open Go.Maps in
theorem MdR_has (t:List Int) (n:Int):has (MdR t) (.int .i64 n) = decide (n ∈ t):=by
  induction t with
  | nil=>rfl
  | cons m t ih =>
    rw [MdR]
    by_cases e:n = m
    · subst e
      rw [has_put_same (MdR_tidy t).isMap (by simp [WideAt.IsKeyLit])]
      simp
    · rw [has_put_other (by simp [e]),ih]
      simp [e]
open Go.Maps in
theorem Md_has (met:List Int) (n:Int):has (Md met) (.int .i64 n) = decide (n ∈ met):=by
  unfold Md
  rw [MdR_has]
  simp
open Go.Maps in
theorem MdR_size (t:List Int) (h:t.Nodup):size (MdR t) = t.length:=by
  induction t with
  | nil=>rfl
  | cons m t ih =>
    rw [List.nodup_cons] at h
    rw [MdR,size_put (MdR_tidy t),MdR_has,ih h.2]
    simp [h.1]
open Go.Maps in
theorem Md_size (met:List Int) (h:met.Nodup):size (Md met) = met.length:=by
  unfold Md
  rw [MdR_size _ (nodup_rev h),List.length_reverse]
open Go.Maps in
theorem MdR_at (t:List Int) (n:Int) (h:n ∈ t) (z:DataW Unit) (hd:t.Nodup):(MdR t).atKey (.int .i64 n) z = .lit (.int .i64 (-1 - ((t.reverse.idxOf n:Nat):Int))):=by
  induction t with
  | nil=>simp at h
  | cons m t ih =>
    rw [List.nodup_cons] at hd
    rw [MdR]
    by_cases e:n = m
    · subst e
      rw [atKey_put_same (MdR_tidy t).isMap (by simp [WideAt.IsKeyLit]),List.reverse_cons,List.idxOf_append,if_neg (by simpa using hd.1),List.idxOf_cons_self,List.length_reverse]
      simp
    · have hm:n ∈ t:=by simpa [e] using h
      rw [atKey_put_other (by simp [e]),ih hm hd.2,List.reverse_cons,List.idxOf_append,if_pos (by simpa using hm)]
open Go.Maps in
theorem Md_at (met:List Int) (n:Int) (h:n ∈ met) (z:DataW Unit) (hd:met.Nodup):(Md met).atKey (.int .i64 n) z = .lit (.int .i64 (-1 - ((met.idxOf n:Nat):Int))):=by
  unfold Md
  rw [MdR_at _ n (by simpa using h) z (nodup_rev hd),List.reverse_reverse]
def impl_rename.f (l:List (List Int)):Option (List (List Int)):=if l.length ≤ 2097152 ∧ (l.all fun x=>decide (x.length ≤ 1048576) && x.all fun n=>decide (-9223372036854775808 ≤ n ∧ n ≤ 9223372036854775807)) = true then some (rnL [] l) else none
theorem Try.keyed3:Go.Maps.Keyed Try.prog 3:=Go.Maps.int_keyed Try.underlying3
theorem Try.zero3 (w:World):(zeroValue 3).run Try.prog w = .ok (.int .i64 0) w:=by kernel_rfl
theorem map_keep {w w':World} {P:Program} {b n g:Nat} {D:DataW Unit} (h:w.ownsMap P 3 (plainElem P 3) b n D) (hg:w.grownBy w' (some g)) {cs:Array Value} {t:Nat} (hc:w.heap[g]? = some (.cells cs t (0,0))):w'.ownsMap P 3 (plainElem P 3) b n D:=by
  refine h.kept hg (fun e=>?_)
  injection e with e
  subst e
  obtain ⟨es,clock,hb,_⟩:=h
  rw [hc] at hb
  cases hb
theorem map_below {w w':World} {P:Program} {b n:Nat} {D:DataW Unit} (h:w.ownsMap P 3 (plainElem P 3) b n D) (hb:Below w.heap.size w w'):w'.ownsMap P 3 (plainElem P 3) b n D:=h.kept (grown_of_below hb none) (by simp)
theorem s_mapped {α:Type} {d:Kd α} {e:Nat} {w w1:World} {base gm n:Nat} {ok:Nat → Prop} {v:Value} {xs:List α} {P:Program} {D:DataW Unit} (h:Kd.S d e w base ok v xs) (hm:w.ownsMap P 3 (plainElem P 3) gm n D) (hg:w.grownBy w1 (some gm)):Kd.S d e w1 base ok v xs:=by
  refine Kd.S_mono (Kd.S_grown (Kd.S_bound h) hg (fun k hk q=>?_)) (fun _ hk=>hk.1)
  injection q with q
  subst q
  obtain ⟨_,_,_,e',_,cells,hc⟩:=hk
  obtain ⟨es,clock,hb,_⟩:=hm
  rw [hc] at hb
  cases hb
set_option maxHeartbeats 16000000 in
set_option maxRecDepth 1000000 in
theorem impl_rename.calls (A0:Option Addr) (c0:Nat) (l0:List (List Int)) (r:List (List Int)) (w:World) (hr0:Kd.C (Kd.slice 3 (Kd.int .i64)) w A0 l0.length l0) (hc0:l0.length ≤ c0) (h:impl_rename.f l0 = some r) :
    Calls Try.prog 139 #[.slice A0 l0.length c0] w fun e w'=>∃ v0_:Value,e = .returned v0_ ∧ Kd.S (Kd.slice 3 (Kd.int .i64)) 22 w' w.heap.size (fun _=>True) v0_ r ∧ Below w.heap.size w w':=by
  unfold impl_rename.f at h
  split at h
  rotate_left
  · cases h
  rename_i hn
  obtain ⟨hn,hall⟩:=hn
  obtain rfl:=Option.some.inj h
  have H0:=Aside0.mk hr0
  have HALL:=Aside0.mk hall
  clear h hr0 hall
  have hmm:=@run_makeMap Try.prog
  go_enter Try.func139,Try.ntmps139
  go_upto_region 2 with fail
  have HM:Aside0 ((w.alloc (.map #[] 0)).ownsMap Try.prog 3 (plainElem Try.prog 3) w.heap.size 0 (Md [])):=⟨World.ownsMap_made _ _ _ _⟩
  have HB:Aside0 (Below w.heap.size w (w.alloc (.map #[] 0))):=⟨Below.alloc (Below.refl _ _) (Nat.le_refl _) _⟩
  obtain ⟨gm,hgm⟩:∃ g,g = w.heap.size:=⟨_,rfl⟩
  have HGM:Aside0 (w.heap.size ≤ gm):=⟨Nat.le_of_eq hgm.symm⟩
  generalize w.alloc (.map #[] 0) = W0 at HM HB ⊢
  rw [← hgm] at HM ⊢
  clear hgm hmm
  go_wp2_with ((with_reducible refine gate_dst (N:=14) rfl ?_);refine Kd.S_make (Kd.slice 3 (Kd.int .i64)) _ 22 rfl (N:=14) rfl 105 _ _ rfl (l0.length:Int) rfl rfl Try.underlying105 (.slice none 0 0) 24 info22 rfl (by decide) (by decide) [] (ok:=fun _=>True) (okp:=fun _=>True) ⟨_,rfl,Kd.R_nil _ _ _ _ _⟩ (fun _ hk=>hk) trivial (by omega) (by rw [Int.toNat_natCast];omega) (Below.refl _ _) (Nat.le_refl _) ?_;intro vo w1 ho hb hg_ hnew_;rw [Int.toNat_natCast] at ho;have HS:=Aside0.mk (Kd.S_lower ho HB.out.size);have HM:=Aside0.mk (map_below HM.out hb);have HB:=Aside0.mk (below_step HB.out hb);clear ho hb hg_ hnew_;obtain ⟨AO,cO,rfl⟩:∃ A c,vo = .slice A l0.length c:=by have h9:=Kd.S_slice HS.out;rwa [List.length_replicate] at h9)
  go_loopw [17] (fun v17 WR=>∃ (i:Nat) (met:List Int) (dn:List (List Int)),i ≤ l0.length ∧ v17 = .int .i64 i ∧ Hid (dn.length = i) ∧ Hid (dn ++ rnL met (l0.drop i) = rnL [] l0) ∧ Hid (met.length ≤ i * 1048576) ∧ Hid met.Nodup ∧ Hid (Kd.S (Kd.slice 3 (Kd.int .i64)) 22 WR w.heap.size (fun _=>True) (.slice AO l0.length cO) (dn ++ List.replicate (l0.length - i) [])) ∧ Hid (WR.ownsMap Try.prog 3 (plainElem Try.prog 3) gm met.length (Md met)) ∧ Hid (Below w.heap.size w WR)) (fun v17 _=>l0.length - (intOf v17).toNat)
  case atStart=>exact ⟨0,[],[],Nat.zero_le _,rfl,rfl,rfl,Nat.zero_le _,List.nodup_nil,HS.out,HM.out,HB.out⟩
  case round =>
    rename World=>WR
    clear HS HM HB
    obtain ⟨i,met,dn,hi,rfl,hdl,hde,hml,hmd,hS,hM,hB⟩:=hrel
    unfold Hid at hdl hde hml hmd hS hM hB
    by_cases hp:i < l0.length
    · obtain ⟨c,hcl,hK,hcc⟩:∃ c:List Value,c.length = 1 ∧ (∃ A c',c = [.slice A (l0.getD i []).length c'] ∧ (l0.getD i []).length ≤ c' ∧ (Kd.int .i64).C w A (l0.getD i []).length (l0.getD i [])) ∧ ∃ ad,A0 = some ad ∧ ∀ u,c[0]? = some u → w.cell? (ad.add i) = some u:=by
        obtain ⟨ad,c,rfl,hcl,hK,hcc⟩:=Kd.C_get H0.out [] (i:Int) (by omega) (by omega)
        rw [Int.toNat_natCast] at hK hcc
        refine ⟨c,hcl,hK,ad,rfl,fun u hu=>?_⟩
        have:=hcc 0 u hu
        rwa [show i * (Kd.slice 3 (Kd.int .i64)).sz + 0 = i by show i * 1 + 0 = i;omega] at this
      obtain ⟨AX,cX,rfl,hXc,hXr⟩:=hK
      obtain ⟨ad,rfl,hcc⟩:=hcc
      have q0:=hcc _ rfl
      have hx0:l0.getD i [] = l0[i]:=by rw [List.getD_eq_getElem?_getD,List.getElem?_eq_getElem hp];rfl
      rw [hx0] at hXc hXr q0
      rw [List.drop_eq_getElem_cons hp] at hde
      have hxm:l0[i].length ≤ 1048576 ∧ ∀ n ∈ l0[i],-9223372036854775808 ≤ n ∧ n ≤ 9223372036854775807:=by
        have:=List.all_eq_true.1 HALL.out l0[i] (List.getElem_mem hp)
        rw [Bool.and_eq_true,decide_eq_true_iff,List.all_eq_true] at this
        exact ⟨this.1,fun n hn=>of_decide_eq_true (this.2 n hn)⟩
      clear hcc hcl hx0
      replace q0:=(hB.cell (World.block_lt_of_cell? w _ q0)).trans q0
      generalize l0[i] = x at hXc hXr q0 hde hxm
      simp only [rnL] at hde
      have hxl:=hxm.1
      have HXW:=Aside0.mk hxm.2
      have HX:=Aside0.mk hXr
      have HDL:=Aside0.mk hdl
      have HDE:=Aside0.mk hde
      have HML:=Aside0.mk hml
      have HMD:=Aside0.mk hmd
      have HS:=Aside0.mk hS
      have HM:=Aside0.mk hM
      have HB:=Aside0.mk hB
      have hcall:=slices_Clone_int_int_83.calls AX cX x x WR (Kd.C_below hXr hB) hXc (by unfold slices_Clone_int_int_83.f;rw [if_pos (by omega)])
      clear hdl hde hml hmd hS hM hB hXr hxm
      obtain ⟨go,capO,eO,_,_,csO,hcO⟩:=Kd.S_form HS.out (by rw [List.length_append,List.length_replicate];have:=HDL.out;omega)
      injection eO with eO eL eO2
      clear eL
      subst eO eO2
      have HCO:=Aside0.mk hcO
      have hgo:go < WR.heap.size:=blk_lt hcO
      have HGB:Aside0 (w.heap.size ≤ go):=⟨Kd.S_base HS.out go rfl⟩
      clear hcO
      go_wp2_with (go_at_call 83;refine hcall.mono ?_;first|rintro e W2 v rfl hr hd|rintro e W2 ⟨v,rfl,hr,hd⟩;have HSG:=Aside0.mk (Kd.S_below (Kd.S_mono (Kd.S_bound HS.out) (ok':=fun k_=>True ∧ ¬ WR.heap.size ≤ k_) (fun k_ h=>⟨trivial,by have:=h.2.2.1;omega⟩)) hd);have HM:=Aside0.mk (map_below HM.out hd);have HRX:=Aside0.mk (Kd.R_lower (Kd.R_bound hr) HB.out.size);have HB:=Aside0.mk (below_step HB.out hd);have hcO2:=Aside0.mk ((hd.block go hgo).trans HCO.out);clear hr hd HS;obtain ⟨AV,cV,rfl⟩:=Kd.R_slice HRX.out;obtain ⟨oki,cc_,hcl,hM_,hcc,hfr,hoki,hH⟩:=Kd.S_elem HSG.out [] (i:Int) (by omega) (by omega);obtain ⟨vold,rfl,hro⟩:=hM_;rw [Int.toNat_natCast] at hcc hfr hro;have q1:W2.cell? ⟨go,i,none⟩ = some vold:=(by have:=hcc 0 _ rfl;rwa [show i * (Kd.slice 3 (Kd.int .i64)).sz + 0 = i by show i * 1 + 0 = i;omega] at this);have q2:W2.frozen? ⟨go,i,none⟩ = false:=(by have:=hfr 0;rwa [show i * (Kd.slice 3 (Kd.int .i64)).sz + 0 = i by show i * 1 + 0 = i;omega] at this);obtain ⟨Ao_,co_,rfl⟩:=Kd.R_slice hro;have hSg:=(Kd.S_seg (ok:=fun _=>True) (okg:=fun k_=>WR.heap.size ≤ k_ ∧ k_ ≠ go) (Kd.H_mono hH (fun k_ h=>⟨trivial,fun q_=>h.2 q_.1⟩)) (by omega) (by omega) (seg:=[.slice AV x.length cV]) (j:=0) (by show 0 + 1 ≤ 1;omega) (okp:=fun k_=>WR.heap.size ≤ k_ ∧ k_ ≠ go) (x':=x) ⟨_,rfl,Kd.R_mono (Kd.R_types HRX.out hcO2.out (by decide)) (fun k_ h=>⟨h.1.2.1,h.2⟩)⟩ (fun k_ h=>.inr h) (fun k_ h=>⟨trivial,h.2⟩));have HSN:=Aside0.mk hSg.1;have HSG2:=Aside0.mk hSg.2;clear hSg hH hcc hfr hoki hro hcl)
      have hset:(dn ++ List.replicate (l0.length - i) []).set ((i:Int)).toNat x = dn ++ x :: List.replicate (l0.length - (i + 1)) []:=by
        have hdl:=HDL.out
        rw [Int.toNat_natCast,List.set_append_right _ _ (by omega),hdl,Nat.sub_self,show l0.length - i = (l0.length - (i + 1)) + 1 by omega,List.replicate_succ,List.set_cons_zero]
      have e9:((i:Int)).toNat * (Kd.slice 3 (Kd.int .i64)).sz + 0 = i:=by rw [Int.toNat_natCast];show i * 1 + 0 = i;omega
      have hs9:=HSN.out
      have hg9:=HSG2.out
      rw [hset,e9] at hs9
      rw [e9] at hg9
      have HS:=Aside0.mk (show Kd.S (Kd.slice 3 (Kd.int .i64)) 22 (W2.setCell ⟨go,i,none⟩ (.slice AV x.length cV)) w.heap.size (fun _=>True) (.slice (some ⟨go,0,none⟩) l0.length cO) (dn ++ x :: List.replicate (l0.length - (i + 1)) []) from hs9)
      have HM:=Aside0.mk (map_keep HM.out (show W2.grownBy (W2.setCell ⟨go,i,none⟩ (.slice AV x.length cV)) (some go) from hg9) hcO2.out)
      have HB:=Aside0.mk (below_set HB.out HGB.out (j:=i) (v:=.slice AV x.length cV))
      clear hs9 hg9 HSN HSG2 hset e9 HSG HRX hcO2 q1 q2 HCO
      generalize W2.setCell ⟨go,i,none⟩ (.slice AV x.length cV) = W3 at HS HM HB ⊢
      go_loopw [29] (fun v29 Wq=>∃ (k:Nat) (mt pr:List Int),k ≤ x.length ∧ v29 = .int .i64 k ∧ Hid (pr.length = k) ∧ Hid ((rnT mt (x.drop k)).1 = (rnT met x).1 ∧ pr ++ (rnT mt (x.drop k)).2 = (rnT met x).2) ∧ Hid (mt.length ≤ i * 1048576 + k) ∧ Hid mt.Nodup ∧ Hid (Kd.S (Kd.slice 3 (Kd.int .i64)) 22 Wq w.heap.size (fun _=>True) (.slice (some ⟨go,0,none⟩) l0.length cO) (dn ++ (pr ++ x.drop k) :: List.replicate (l0.length - (i + 1)) [])) ∧ Hid (Wq.ownsMap Try.prog 3 (plainElem Try.prog 3) gm mt.length (Md mt)) ∧ Hid (Below w.heap.size w Wq)) (fun v29 _=>x.length - (intOf v29).toNat)
      case atStart =>
        have a1:(rnT met (x.drop 0)).1 = (rnT met x).1 ∧ [] ++ (rnT met (x.drop 0)).2 = (rnT met x).2:=by rw [List.drop_zero];exact ⟨rfl,List.nil_append _⟩
        have a2:met.length ≤ i * 1048576 + 0:=Nat.le_trans HML.out (Nat.le_add_right _ _)
        have a3:Kd.S (Kd.slice 3 (Kd.int .i64)) 22 W3 w.heap.size (fun _=>True) (.slice (some ⟨go,0,none⟩) l0.length cO) (dn ++ ([] ++ x.drop 0) :: List.replicate (l0.length - (i + 1)) []):=by rw [List.drop_zero,List.nil_append];exact HS.out
        exact ⟨0,met,[],Nat.zero_le _,rfl,rfl,a1,by unfold Hid;exact a2,HMD.out,a3,HM.out,HB.out⟩
      case round =>
        rename World=>Wq
        clear HS HM HB HML HMD
        obtain ⟨k,mt,pr,hk,rfl,hpl,hrn,hml,hmd,hS,hM,hB⟩:=hrel
        unfold Hid at hpl hrn hml hmd hS hM hB
        by_cases hq:k < x.length
        · obtain ⟨adx,cx,rfl,hcl,hKx,hcx⟩:=Kd.C_get (Kd.C_below HX.out hB) 0 (k:Int) (by omega) (by omega)
          rw [Int.toNat_natCast] at hKx hcx
          have hx0:x.getD k 0 = x[k]:=by rw [List.getD_eq_getElem?_getD,List.getElem?_eq_getElem hq];rfl
          rw [hx0] at hKx
          have q0:Wq.cell? (adx.add k) = some (.int .i64 x[k]):=by
            have hc9:cx = [.int .i64 x[k]]:=hKx
            subst hc9
            have:=hcx 0 _ rfl
            rwa [show k * (Kd.int .i64).sz + 0 = k by show k * 1 + 0 = k;omega] at this
          have hnb:=HXW.out x[k] (List.getElem_mem hq)
          rw [List.drop_eq_getElem_cons hq] at hrn hS
          have hsetk:∀ y:Int,(pr ++ x[k] :: x.drop (k + 1)).set k y = (pr ++ [y]) ++ x.drop (k + 1):=fun y=>by
            rw [List.set_append_right _ _ (by omega),hpl,Nat.sub_self,List.set_cons_zero,List.append_assoc];rfl
          have hlen9:(pr ++ x[k] :: x.drop (k + 1)).length = x.length:=by rw [List.length_append,List.length_cons,List.length_drop];omega
          clear hcl hKx hcx hx0
          generalize x[k] = n at q0 hnb hrn hS hsetk hlen9
          have hkb:k < 1048576:=by omega
          have HPL:=Aside0.mk hpl
          have HML:=Aside0.mk hml
          have HMD:=Aside0.mk hmd
          have HS:=Aside0.mk hS
          have HM:=Aside0.mk hM
          have HB:=Aside0.mk hB
          have HSK:=Aside0.mk hsetk
          have HL9:=Aside0.mk hlen9
          clear hpl hml hmd hS hM hB hsetk hlen9
          by_cases hneg:0 ≤ n
          · simp only [rnT,if_pos hneg] at hrn
            have HRN:=Aside0.mk hrn
            clear hrn
            go_wp2
            go_roundw
            case rel=>exact ⟨k + 1,mt,pr ++ [n],hq,rfl,by have:=HPL.out;unfold Hid;rw [List.length_append,List.length_singleton];omega,⟨HRN.out.1,by have:=HRN.out.2;rw [List.append_assoc];exact this⟩,by have:=HML.out;unfold Hid;omega,HMD.out,by have:=HS.out;unfold Hid;rw [List.append_assoc];exact this,HM.out,HB.out⟩
            case measure=>simp [intOf];omega
          · simp only [rnT,if_neg hneg] at hrn
            have HRN:=Aside0.mk hrn
            have hkey:keyOf Try.prog 3 (.int .i64 n) = some (.int .i64 n):=Go.Maps.keyOf_int_mk Try.underlying3 (by simp [Lit.wf,IntKind.min,IntKind.max,IntKind.signed,IntKind.bits];omega)
            have hng:(n ≥ 0) = False:=eq_false (by omega)
            clear hrn
            by_cases hin:n ∈ mt
            · have hhas:Go.Maps.has (Md mt) (.int .i64 n) = true:=by rw [Md_has];exact decide_eq_true hin
              go_upto_region 14 with (at_lookup;refine wpList_lookup_own_ok_int _ rfl _ _ 151 rfl 3 3 .i64 Try.keyed3 Try.underlying151 Try.underlying3 (Try.zero3 _) gm _ (Md mt) rfl HM.out _ _ rfl hkey ?_;intro cv_ hcv_ hwc_)
              have HRN2:Aside0 ((rnT mt (x.drop (k + 1))).1 = (rnT met x).1 ∧ pr ++ (-1 - ((mt.idxOf n:Nat):Int)) :: (rnT mt (x.drop (k + 1))).2 = (rnT met x).2):=⟨by have:=HRN.out;simp only [if_pos hin] at this;exact this⟩
              have HML2:Aside0 (mt.length ≤ i * 1048576 + (k + 1)):=⟨by have:=HML.out;omega⟩
              have hin2:=Aside0.mk hin
              clear hin hhas HRN HML q0 hng
              have hS5:=Kd.S_drew HS.out
              have hM5:=HM.out.drew
              have hB5:=below_drew1 HB.out
              obtain ⟨oki,c,hcl,hM_,hcc,hfr,hoki,hkeep,_⟩:=S_at hS5 i (pr ++ n :: x.drop (k + 1)) (by rw [List.getElem?_append_right (by have:=HDL.out;omega),HDL.out,Nat.sub_self];rfl)
              obtain ⟨vi,rfl,hRi⟩:=hM_
              have q1:Wq.drew.cell? ⟨go,i,none⟩ = some vi:=by have:=hcc 0 _ rfl;rwa [show i * (Kd.slice 3 (Kd.int .i64)).sz + 0 = i by show i * 1 + 0 = i;omega] at this
              obtain ⟨gi,ci,rfl,hgib,hgil,csi,hci⟩:=Kd.R_form hRi (by rw [HL9.out];omega)
              rw [HL9.out] at q1
              obtain ⟨ck,hck,hMk,hcck,_⟩:=Kd.R_elem hRi 0 (k:Int) (by omega) (by rw [HL9.out];omega)
              obtain ⟨u0,hu0⟩:∃ u0,ck[0]? = some u0:=⟨_,List.getElem?_eq_getElem (by rw [hck];decide)⟩
              have q2:Wq.drew.cell? ⟨gi,k,none⟩ = some u0:=by have:=hcck 0 _ hu0;rwa [Int.toNat_natCast,show k * (Kd.int .i64).sz + 0 = k by show k * 1 + 0 = k;omega] at this
              have q3:=blk_frozen hci k
              obtain ⟨cv,hrun,hat,hwf⟩:=hM5.lookup_int Try.keyed3 Try.underlying151 Try.underlying3 (Try.zero3 _) hkey
              have hcv:cv = -1 - (((mt).idxOf n:Nat):Int):=by have h9:=Md_at (mt) n hin2.out (.lit (.int .i64 0)) HMD.out;rw [hat] at h9;injection h9 with h9;injection h9
              have hput:=Kd.R_put hRi (k:Int) cv
              rw [Int.toNat_natCast,HSK.out] at hput
              have hkp:=hkeep (Wq.drew.setCell ⟨gi,k,none⟩ (.int .i64 cv)) ((pr ++ [cv]) ++ x.drop (k + 1)) (Kept.setCell (Kept.refl _ _) (.inl (hRi.1 gi rfl)) _) ⟨_,rfl,by have h9:=hput.1;exact h9⟩
              rw [List.set_append_right _ _ (by have:=HDL.out;omega),HDL.out,Nat.sub_self,List.set_cons_zero] at hkp
              have HS:=Aside0.mk hkp
              have HM:=Aside0.mk (map_keep hM5 (show Wq.drew.grownBy (Wq.drew.setCell ⟨gi,k,none⟩ (.int .i64 cv)) (some gi) from hput.2) hci)
              have HB:=Aside0.mk (below_set hB5 hgib (j:=k) (v:=.int .i64 cv))
              have Q2:=Aside0.mk q2
              have Q3:=Aside0.mk q3
              have HCV:=Aside0.mk hcv
              clear hS5 hM5 hB5 hcl hcc hfr hoki hkeep hRi hck hMk hcck hu0 hput hkp hat hwf hgib hgil hci q2 q3 hcv
              refine start_ (n:=10) (S:=fun w'=>w'.cell? ⟨go,i,none⟩ = some (.slice (some ⟨gi,0,none⟩) x.length ci) ∧ (Instr.lookup 151 (.map (some gm)) (.int .i64 n) false).run Try.prog w' = .ok (.int .i64 cv) w') (ds:=[9]) #[false,false,false,false,false,false,false,false,false,false] (by kernel_rfl) rfl rfl ⟨q1,hrun⟩ (fun hHeld=>?_)
              clear q1 hrun
              generalize Wq.drew = W5 at HS HM HB Q2 Q3 hHeld ⊢
              refine pure_ (i:=0) (N:=(some 49)) (v:=?_) (a':=?_) #[true,false,false,false,false,false,false,false,false,false] rfl rfl (by kernel_rfl) (fun _ _ _ h=>h) (Or.inl ⟨by rfl,?_⟩) ?_ ?_
              rotate_left
              · intro w'
                go_simp
                with_reducible rfl
              rotate_left
              · simp only [Act.put,List.setIfInBounds_toArray,List.set_cons_zero,List.set_cons_succ,i64_w,i32_w]
                rfl
              refine pure_ (i:=1) (N:=(some 50)) (v:=?_) (a':=?_) #[true,true,false,false,false,false,false,false,false,false] rfl rfl (by kernel_rfl) (fun _ _ _ h=>h) (Or.inl ⟨by rfl,?_⟩) ?_ ?_
              rotate_left
              · intro w'
                go_simp
                with_reducible rfl
              rotate_left
              · simp only [Act.put,List.setIfInBounds_toArray,List.set_cons_zero,List.set_cons_succ,i64_w,i32_w]
                rfl
              refine pure_ (i:=2) (N:=(some 51)) (v:=?_) (a':=?_) #[true,true,true,false,false,false,false,false,false,false] rfl rfl (by kernel_rfl) (fun _ _ _ h=>h) (Or.inl ⟨by rfl,?_⟩) ?_ ?_
              rotate_left
              · intro w'
                go_simp
                with_reducible rfl
              rotate_left
              · simp only [Act.put,List.setIfInBounds_toArray,List.set_cons_zero,List.set_cons_succ,i64_w,i32_w]
                rfl
              refine take_ (i:=3) (N:=(some 52)) (v:=?_) (a':=?_) #[true,true,true,true,false,false,false,false,false,false] rfl rfl (by kernel_rfl) (fun _ _ _ h=>h) (Or.inl ⟨by rfl,?_⟩) hHeld ?_ ?_
              rotate_left
              · intro w' ⟨s0,s1⟩
                go_simp
                with_reducible rfl
              rotate_left
              · simp only [Act.put,List.setIfInBounds_toArray,List.set_cons_zero,List.set_cons_succ,i64_w,i32_w]
                rfl
              refine pure_ (i:=4) (N:=(some 53)) (v:=?_) (a':=?_) #[true,true,true,true,true,false,false,false,false,false] rfl rfl (by kernel_rfl) (fun _ _ _ h=>h) (Or.inl ⟨by rfl,?_⟩) ?_ ?_
              rotate_left
              · intro w'
                go_simp
                with_reducible rfl
              rotate_left
              · simp only [Act.put,List.setIfInBounds_toArray,List.set_cons_zero,List.set_cons_succ,i64_w,i32_w]
                rfl
              refine pure_ (i:=5) (N:=(some 54)) (v:=?_) (a':=?_) #[true,true,true,true,true,true,false,false,false,false] rfl rfl (by kernel_rfl) (fun _ _ _ h=>h) (Or.inl ⟨by rfl,?_⟩) ?_ ?_
              rotate_left
              · intro w'
                go_simp
                with_reducible rfl
              rotate_left
              · simp only [Act.put,List.setIfInBounds_toArray,List.set_cons_zero,List.set_cons_succ,i64_w,i32_w]
                rfl
              refine pure_ (i:=6) (N:=(some 55)) (v:=?_) (a':=?_) #[true,true,true,true,true,true,true,false,false,false] rfl rfl (by kernel_rfl) (fun _ _ _ h=>h) (Or.inl ⟨by rfl,?_⟩) ?_ ?_
              rotate_left
              · intro w'
                go_simp
                with_reducible rfl
              rotate_left
              · simp only [Act.put,List.setIfInBounds_toArray,List.set_cons_zero,List.set_cons_succ,i64_w,i32_w]
                rfl
              refine take_ (i:=7) (N:=(some 56)) (v:=?_) (a':=?_) #[true,true,true,true,true,true,true,true,false,false] rfl rfl (by kernel_rfl) (fun _ _ _ h=>h) (Or.inl ⟨by rfl,?_⟩) hHeld ?_ ?_
              rotate_left
              · intro w' ⟨s0,s1⟩
                go_simp
                with_reducible rfl
              rotate_left
              · simp only [Act.put,List.setIfInBounds_toArray,List.set_cons_zero,List.set_cons_succ,i64_w,i32_w]
                rfl
              refine pure_ (i:=8) (N:=(some 57)) (v:=?_) (a':=?_) #[true,true,true,true,true,true,true,true,true,false] rfl rfl (by kernel_rfl) (fun _ _ _ h=>h) (Or.inl ⟨by rfl,?_⟩) ?_ ?_
              rotate_left
              · intro w'
                go_simp
                with_reducible rfl
              rotate_left
              · simp only [Act.put,List.setIfInBounds_toArray,List.set_cons_zero,List.set_cons_succ,i64_w,i32_w]
                rfl
              refine last_ (i:=9) (N:=none) #[true,true,true,true,true,true,true,true,true,true] rfl rfl (by kernel_rfl) (by decide) (fun K hK=>?_)
              have hs:=Q2.out
              have hf:=Q3.out
              clear hHeld
              refine skip_ (w1:=?_) (by rfl) rfl ?_ ?_
              rotate_left
              · go_simp
                rfl
              clear hs hf Q2 Q3
              generalize W5.setCell ⟨gi,k,none⟩ (.int .i64 cv) = W6 at HS HM HB ⊢
              refine hK.out _ _ ?_
              clear hK K
              refine done_ (by kernel_rfl) ?_
              go_wp2
              go_roundw
              case rel=>exact ⟨k + 1,mt,pr ++ [cv],hq,rfl,by have:=HPL.out;unfold Hid;rw [List.length_append,List.length_singleton];omega,⟨HRN2.out.1,by have:=HRN2.out.2;rw [List.append_assoc,HCV.out];exact this⟩,by have:=HML2.out;unfold Hid;exact this,HMD.out,HS.out,HM.out,HB.out⟩
              case measure=>simp [intOf];omega
            · have hhas:Go.Maps.has (Md mt) (.int .i64 n) = false:=by rw [Md_has];exact decide_eq_false hin
              have hsz:Go.Maps.size (Md mt) = mt.length:=Md_size mt HMD.out
              have hmb:mt.length ≤ 4398046511104:=by have:=HML.out;omega
              have hval:plainElem (H:=Unit) Try.prog 3 (.int .i64 (-1 - (mt.length:Int))) = some (.lit (.int .i64 (-1 - (mt.length:Int))),[]):=plainElem_int Try.underlying3 (by simp [Lit.wf,IntKind.min,IntKind.max,IntKind.signed,IntKind.bits];omega)
              go_upto_region 14 with (first
                | (at_lookup;refine wpList_lookup_own_ok_int _ rfl _ _ 151 rfl 3 3 .i64 Try.keyed3 Try.underlying151 Try.underlying3 (Try.zero3 _) gm _ (Md mt) rfl HM.out _ _ rfl hkey ?_;intro cv_ hcv_ hwc_)
                | (at_len;refine wpList_len_own _ rfl _ 151 rfl 3 3 Try.underlying151 _ gm _ (Md mt) rfl HM.out ?_)
                | (at_mapUpdate;go_loud (refine wpList_mapUpdate_own _ rfl _ _ _ 151 rfl 3 3 Try.keyed3 Try.underlying151 (plainElem (H:=Unit) Try.prog 3) gm mt.length (Md mt) rfl HM.out (by unfold maxLen;omega) _ _ (.int .i64 n) rfl rfl hkey (.lit (.int .i64 (-1 - (mt.length:Int)))) [] hval ?_);intro Wm hown1 hgrow1;go_loud (have HS:=Aside0.mk (s_mapped HS.out HM.out hgrow1);have HB:=Aside0.mk (Below.grown HB.out hgrow1 HB.out.size (fun k_ e_=>by injection e_ with e_;subst e_;exact HGM.out));have HM:=Aside0.mk hown1;clear hown1 hgrow1)))
              have HRN2:Aside0 ((rnT (mt ++ [n]) (x.drop (k + 1))).1 = (rnT met x).1 ∧ pr ++ (-1 - (((mt ++ [n]).idxOf n:Nat):Int)) :: (rnT (mt ++ [n]) (x.drop (k + 1))).2 = (rnT met x).2):=⟨by have:=HRN.out;simp only [if_neg hin] at this;exact this⟩
              have HML2:Aside0 ((mt ++ [n]).length ≤ i * 1048576 + (k + 1)):=⟨by have:=HML.out;rw [List.length_append,List.length_singleton];omega⟩
              have hin2:Aside0 (n ∈ mt ++ [n]):=⟨by simp⟩
              have HMD:Aside0 (mt ++ [n]).Nodup:=⟨by
                have h9:=HMD.out
                rw [List.nodup_append]
                exact ⟨h9,by simp,fun a ha b hb e=>by rw [List.mem_singleton] at hb;subst hb;subst e;exact hin ha⟩⟩
              have HM:Aside0 (Wm.ownsMap Try.prog 3 (plainElem Try.prog 3) gm (mt ++ [n]).length (Md (mt ++ [n]))):=⟨by rw [Md_snoc,List.length_append,List.length_singleton];exact HM.out⟩
              clear hin hhas HRN HML q0 hng hsz hmb hval
              have hS5:=Kd.S_drew HS.out
              have hM5:=HM.out.drew
              have hB5:=below_drew1 HB.out
              obtain ⟨oki,c,hcl,hM_,hcc,hfr,hoki,hkeep,_⟩:=S_at hS5 i (pr ++ n :: x.drop (k + 1)) (by rw [List.getElem?_append_right (by have:=HDL.out;omega),HDL.out,Nat.sub_self];rfl)
              obtain ⟨vi,rfl,hRi⟩:=hM_
              have q1:Wm.drew.cell? ⟨go,i,none⟩ = some vi:=by have:=hcc 0 _ rfl;rwa [show i * (Kd.slice 3 (Kd.int .i64)).sz + 0 = i by show i * 1 + 0 = i;omega] at this
              obtain ⟨gi,ci,rfl,hgib,hgil,csi,hci⟩:=Kd.R_form hRi (by rw [HL9.out];omega)
              rw [HL9.out] at q1
              obtain ⟨ck,hck,hMk,hcck,_⟩:=Kd.R_elem hRi 0 (k:Int) (by omega) (by rw [HL9.out];omega)
              obtain ⟨u0,hu0⟩:∃ u0,ck[0]? = some u0:=⟨_,List.getElem?_eq_getElem (by rw [hck];decide)⟩
              have q2:Wm.drew.cell? ⟨gi,k,none⟩ = some u0:=by have:=hcck 0 _ hu0;rwa [Int.toNat_natCast,show k * (Kd.int .i64).sz + 0 = k by show k * 1 + 0 = k;omega] at this
              have q3:=blk_frozen hci k
              obtain ⟨cv,hrun,hat,hwf⟩:=hM5.lookup_int Try.keyed3 Try.underlying151 Try.underlying3 (Try.zero3 _) hkey
              have hcv:cv = -1 - (((mt ++ [n]).idxOf n:Nat):Int):=by have h9:=Md_at (mt ++ [n]) n hin2.out (.lit (.int .i64 0)) HMD.out;rw [hat] at h9;injection h9 with h9;injection h9
              have hput:=Kd.R_put hRi (k:Int) cv
              rw [Int.toNat_natCast,HSK.out] at hput
              have hkp:=hkeep (Wm.drew.setCell ⟨gi,k,none⟩ (.int .i64 cv)) ((pr ++ [cv]) ++ x.drop (k + 1)) (Kept.setCell (Kept.refl _ _) (.inl (hRi.1 gi rfl)) _) ⟨_,rfl,by have h9:=hput.1;exact h9⟩
              rw [List.set_append_right _ _ (by have:=HDL.out;omega),HDL.out,Nat.sub_self,List.set_cons_zero] at hkp
              have HS:=Aside0.mk hkp
              have HM:=Aside0.mk (map_keep hM5 (show Wm.drew.grownBy (Wm.drew.setCell ⟨gi,k,none⟩ (.int .i64 cv)) (some gi) from hput.2) hci)
              have HB:=Aside0.mk (below_set hB5 hgib (j:=k) (v:=.int .i64 cv))
              have Q2:=Aside0.mk q2
              have Q3:=Aside0.mk q3
              have HCV:=Aside0.mk hcv
              clear hS5 hM5 hB5 hcl hcc hfr hoki hkeep hRi hck hMk hcck hu0 hput hkp hat hwf hgib hgil hci q2 q3 hcv
              refine start_ (n:=10) (S:=fun w'=>w'.cell? ⟨go,i,none⟩ = some (.slice (some ⟨gi,0,none⟩) x.length ci) ∧ (Instr.lookup 151 (.map (some gm)) (.int .i64 n) false).run Try.prog w' = .ok (.int .i64 cv) w') (ds:=[9]) #[false,false,false,false,false,false,false,false,false,false] (by kernel_rfl) rfl rfl ⟨q1,hrun⟩ (fun hHeld=>?_)
              clear q1 hrun
              generalize Wm.drew = W5 at HS HM HB Q2 Q3 hHeld ⊢
              refine pure_ (i:=0) (N:=(some 49)) (v:=?_) (a':=?_) #[true,false,false,false,false,false,false,false,false,false] rfl rfl (by kernel_rfl) (fun _ _ _ h=>h) (Or.inl ⟨by rfl,?_⟩) ?_ ?_
              rotate_left
              · intro w'
                go_simp
                with_reducible rfl
              rotate_left
              · simp only [Act.put,List.setIfInBounds_toArray,List.set_cons_zero,List.set_cons_succ,i64_w,i32_w]
                rfl
              refine pure_ (i:=1) (N:=(some 50)) (v:=?_) (a':=?_) #[true,true,false,false,false,false,false,false,false,false] rfl rfl (by kernel_rfl) (fun _ _ _ h=>h) (Or.inl ⟨by rfl,?_⟩) ?_ ?_
              rotate_left
              · intro w'
                go_simp
                with_reducible rfl
              rotate_left
              · simp only [Act.put,List.setIfInBounds_toArray,List.set_cons_zero,List.set_cons_succ,i64_w,i32_w]
                rfl
              refine pure_ (i:=2) (N:=(some 51)) (v:=?_) (a':=?_) #[true,true,true,false,false,false,false,false,false,false] rfl rfl (by kernel_rfl) (fun _ _ _ h=>h) (Or.inl ⟨by rfl,?_⟩) ?_ ?_
              rotate_left
              · intro w'
                go_simp
                with_reducible rfl
              rotate_left
              · simp only [Act.put,List.setIfInBounds_toArray,List.set_cons_zero,List.set_cons_succ,i64_w,i32_w]
                rfl
              refine take_ (i:=3) (N:=(some 52)) (v:=?_) (a':=?_) #[true,true,true,true,false,false,false,false,false,false] rfl rfl (by kernel_rfl) (fun _ _ _ h=>h) (Or.inl ⟨by rfl,?_⟩) hHeld ?_ ?_
              rotate_left
              · intro w' ⟨s0,s1⟩
                go_simp
                with_reducible rfl
              rotate_left
              · simp only [Act.put,List.setIfInBounds_toArray,List.set_cons_zero,List.set_cons_succ,i64_w,i32_w]
                rfl
              refine pure_ (i:=4) (N:=(some 53)) (v:=?_) (a':=?_) #[true,true,true,true,true,false,false,false,false,false] rfl rfl (by kernel_rfl) (fun _ _ _ h=>h) (Or.inl ⟨by rfl,?_⟩) ?_ ?_
              rotate_left
              · intro w'
                go_simp
                with_reducible rfl
              rotate_left
              · simp only [Act.put,List.setIfInBounds_toArray,List.set_cons_zero,List.set_cons_succ,i64_w,i32_w]
                rfl
              refine pure_ (i:=5) (N:=(some 54)) (v:=?_) (a':=?_) #[true,true,true,true,true,true,false,false,false,false] rfl rfl (by kernel_rfl) (fun _ _ _ h=>h) (Or.inl ⟨by rfl,?_⟩) ?_ ?_
              rotate_left
              · intro w'
                go_simp
                with_reducible rfl
              rotate_left
              · simp only [Act.put,List.setIfInBounds_toArray,List.set_cons_zero,List.set_cons_succ,i64_w,i32_w]
                rfl
              refine pure_ (i:=6) (N:=(some 55)) (v:=?_) (a':=?_) #[true,true,true,true,true,true,true,false,false,false] rfl rfl (by kernel_rfl) (fun _ _ _ h=>h) (Or.inl ⟨by rfl,?_⟩) ?_ ?_
              rotate_left
              · intro w'
                go_simp
                with_reducible rfl
              rotate_left
              · simp only [Act.put,List.setIfInBounds_toArray,List.set_cons_zero,List.set_cons_succ,i64_w,i32_w]
                rfl
              refine take_ (i:=7) (N:=(some 56)) (v:=?_) (a':=?_) #[true,true,true,true,true,true,true,true,false,false] rfl rfl (by kernel_rfl) (fun _ _ _ h=>h) (Or.inl ⟨by rfl,?_⟩) hHeld ?_ ?_
              rotate_left
              · intro w' ⟨s0,s1⟩
                go_simp
                with_reducible rfl
              rotate_left
              · simp only [Act.put,List.setIfInBounds_toArray,List.set_cons_zero,List.set_cons_succ,i64_w,i32_w]
                rfl
              refine pure_ (i:=8) (N:=(some 57)) (v:=?_) (a':=?_) #[true,true,true,true,true,true,true,true,true,false] rfl rfl (by kernel_rfl) (fun _ _ _ h=>h) (Or.inl ⟨by rfl,?_⟩) ?_ ?_
              rotate_left
              · intro w'
                go_simp
                with_reducible rfl
              rotate_left
              · simp only [Act.put,List.setIfInBounds_toArray,List.set_cons_zero,List.set_cons_succ,i64_w,i32_w]
                rfl
              refine last_ (i:=9) (N:=none) #[true,true,true,true,true,true,true,true,true,true] rfl rfl (by kernel_rfl) (by decide) (fun K hK=>?_)
              have hs:=Q2.out
              have hf:=Q3.out
              clear hHeld
              refine skip_ (w1:=?_) (by rfl) rfl ?_ ?_
              rotate_left
              · go_simp
                rfl
              clear hs hf Q2 Q3
              generalize W5.setCell ⟨gi,k,none⟩ (.int .i64 cv) = W6 at HS HM HB ⊢
              refine hK.out _ _ ?_
              clear hK K
              refine done_ (by kernel_rfl) ?_
              go_wp2
              go_roundw
              case rel=>exact ⟨k + 1,mt ++ [n],pr ++ [cv],hq,rfl,by have:=HPL.out;unfold Hid;rw [List.length_append,List.length_singleton];omega,⟨HRN2.out.1,by have:=HRN2.out.2;rw [List.append_assoc,HCV.out];exact this⟩,by have:=HML2.out;unfold Hid;exact this,HMD.out,HS.out,HM.out,HB.out⟩
              case measure=>simp [intOf];omega
        · obtain rfl:k = x.length:=by omega
          rw [List.drop_length,List.append_nil] at hS
          rw [List.drop_length] at hrn
          simp only [rnT] at hrn
          obtain ⟨rfl,hrn2⟩:=hrn
          rw [List.append_nil] at hrn2
          subst hrn2
          have HS:=Aside0.mk hS
          have HM:=Aside0.mk hM
          have HB:=Aside0.mk hB
          have HML:=Aside0.mk hml
          have HMD:=Aside0.mk hmd
          clear hS hM hB hml hmd hpl
          go_wp2
          go_roundw
          case rel=>exact ⟨i + 1,(rnT met x).1,dn ++ [(rnT met x).2],hp,rfl,by have:=HDL.out;unfold Hid;rw [List.length_append,List.length_singleton];omega,by have:=HDE.out;unfold Hid;rw [List.append_assoc];exact this,by have:=HML.out;unfold Hid;omega,HMD.out,by have:=HS.out;unfold Hid;rw [List.append_assoc];exact this,HM.out,HB.out⟩
          case measure=>simp [intOf];omega
    · obtain rfl:i = l0.length:=by omega
      rw [List.drop_length] at hde
      simp only [rnL] at hde
      rw [List.append_nil] at hde
      rw [Nat.sub_self,List.replicate_zero,List.append_nil] at hS
      subst hde
      have HS:=Aside0.mk hS
      have HB:=Aside0.mk hB
      clear hS hB hM hdl hml hmd
      go_wp2
      go_ret
      exact ⟨_,rfl,HS.out,HB.out⟩
def impl_termsOf.f (l:List S65):Option (List (List Int)):=if l.length ≤ 1048576 then some (flatT l) else none
set_option maxHeartbeats 8000000 in
set_option maxRecDepth 1000000 in
theorem impl_termsOf.calls (A0:Option Addr) (c0:Nat) (l0:List S65) (r:List (List Int)) (w:World) (hr0:Kd.C k65 w A0 l0.length l0) (hc0:l0.length ≤ c0) (h:impl_termsOf.f l0 = some r) :
    Calls Try.prog 85 #[.slice A0 l0.length c0] w fun e w'=>∃ v0_:Value,e = .returned v0_ ∧ Kd.N (Kd.slice 3 (Kd.int .i64)) 22 w' w.heap.size (fun _=>True) v0_ r ∧ Below w.heap.size w w':=by
  unfold impl_termsOf.f at h
  split at h
  rotate_left
  · cases h
  rename_i hn
  obtain rfl:=Option.some.inj h
  have H0:=Aside0.mk hr0
  clear h hr0
  go_enter Try.func85,Try.ntmps85
  go_wp2
  go_loopw [3,8] (fun v3 v8 wr=>∃ j:Nat,j ≤ l0.length ∧ v8 = .int .i64 j ∧ Hid (Kd.N (Kd.slice 3 (Kd.int .i64)) 22 wr w.heap.size (fun _=>True) v3 (flatT (l0.take j))) ∧ Hid (Below w.heap.size w wr)) (fun _ v8 _=>l0.length - (intOf v8).toNat)
  case atStart=>exact ⟨0,Nat.zero_le _,rfl,Kd.N_nil _ _ _ _ _,Below.refl _ _⟩
  case round =>
    obtain ⟨j,hj,rfl,hN,hB⟩:=hrel
    unfold Hid at hN hB
    by_cases hp:j < l0.length
    · obtain ⟨ad,L1,e1,L2,e2,eA,q0,q1,q2,z1,i1,z2,i2⟩:=at_T65 H0.out (j:Int) (by omega) (by omega)
      have hrd:rd_T65 l0 (j:Int) = l0[j]:=by unfold rd_T65;simp [List.getD_eq_getElem?_getD,hp]
      rw [Int.toNat_natCast] at q0 q1 q2
      rw [hrd] at q0 q1 q2 z1 i1 z2 i2
      subst eA
      have htk:l0.take (j + 1) = l0.take j ++ [l0[j]]:=by rw [List.take_succ_eq_append_getElem hp]
      generalize l0[j] = x at htk q0 q1 q2 z1 i1 z2 i2
      replace q0:=(hB.cell (World.block_lt_of_cell? w _ q0)).trans q0
      replace q1:=(hB.cell (World.block_lt_of_cell? w _ q1)).trans q1
      replace q2:=(hB.cell (World.block_lt_of_cell? w _ q2)).trans q2
      have I1:=Aside0.mk (fk_slice (e:=3) z1 (Kd.C_F (Kd.heap_int _) i1))
      have I2:=Aside0.mk (fk_slice (e:=3) z2 (Kd.C_F (Kd.heap_int _) i2))
      have HTK:=Aside0.mk htk
      have HN:=Aside0.mk hN
      have HB:=Aside0.mk hB
      clear hN hB i1 i2 htk hrd z1 z2
      go_upto_region 5 with fail
      have HX:=Aside0.mk (heap_alloc_new wr (.cells #[.bool x.f0,.slice L1 x.f1.length e1,.slice L2 x.f2.length e2] 65))
      have HN:=Aside0.mk (Kd.N_alloc HN.out (.cells #[.bool x.f0,.slice L1 x.f1.length e1,.slice L2 x.f2.length e2] 65))
      have HB:=Aside0.mk (Below.alloc HB.out HB.out.size (.cells #[.bool x.f0,.slice L1 x.f1.length e1,.slice L2 x.f2.length e2] 65))
      clear q0 q1 q2
      obtain ⟨g,hg⟩:∃ g,g = wr.heap.size:=⟨_,rfl⟩
      generalize wr.alloc (.cells #[.bool x.f0,.slice L1 x.f1.length e1,.slice L2 x.f2.length e2] 65) = W1 at HX HN HB ⊢
      rw [← hg] at HX ⊢
      clear hg
      have b1:W1.cell? ⟨g,1,none⟩ = some (.slice L1 x.f1.length e1):=(blk_cell HX.out 1).trans rfl
      have b2:W1.cell? ⟨g,2,none⟩ = some (.slice L2 x.f2.length e2):=(blk_cell HX.out 2).trans rfl
      go_wp2_with (first
        | ((with_reducible refine gate_dst (N:=17) rfl ?_);refine Kd.N_lit (Kd.slice 3 (Kd.int .i64)) (w0:=w) w.heap.size 22 ?hg (N':=17) ?hd (xs:=[x.f1,x.f2]) (inner:=[.slice L1 x.f1.length e1,.slice L2 x.f2.length e2]) (ok:=fun k_=>k_ < w.heap.size ∨ W1.heap.size ≤ k_) (okp:=fun k_=>k_ < w.heap.size) ?hr (reps2 (Kd.FK_below I1.out HB.out) (Kd.FK_below I2.out HB.out)) (fun k_ h=>.inl h) (.inr (Nat.le_refl _)) HB.out HB.out.size (by simp) ?_;(case hd=>rfl);(case hg=>rfl);(case hr=>first|(go_simp;done)|(go_simp;rfl));intro vl Wl hl_ hb hg_ hat_;have HL:=Aside0.mk hl_;have HBl:=Aside0.mk hb;have HN2:=Aside0.mk (Kd.N_grown HN.out hg_ (fun _ _=>by simp));have HNL:=Aside0.mk (Kd.N_lt HN.out);clear hl_ hb hg_ hat_ HN HB;obtain ⟨Al,cl,rfl⟩:=Kd.N_slice HL.out)
        | ((with_reducible refine gate_builtin (b:=.append) (xs:=#[.tmp 12,.tmp 17]) rfl ?_);at_builtin;refine Kd.N_append_rows (Kd.slice 3 (Kd.int .i64)) (w0:=w) w.heap.size rfl (.tmp 12) (.tmp 17) 105 22 (.slice none 0 0) 24 rfl Try.underlying105 info22 rfl (by decide) (by decide) _ (flatT (l0.take j)) [x.f1,x.f2] Al 2 cl (fun _=>True) (fun k_=>k_ < w.heap.size ∨ W1.heap.size ≤ k_) rfl rfl HN2.out (Kd.N_F HL.out) (fun k_ hk=>⟨trivial,fun q_=>by have h1:=Kd.N_base HN2.out k_ q_.symm;have h2:=HNL.out k_ q_.symm;omega⟩) (fun _ _=>trivial) HBl.out HBl.out.size ?aL ?_;(case aL=>rw [flat_len,List.length_take];omega);intro v1 w1 ho hb hg_ hat_;have HO:=Aside0.mk ho;have HBo:=Aside0.mk hb;clear ho hb hg_ hat_))
      go_roundw
      case rel=>exact ⟨j + 1,by omega,rfl,by have:=HO.out;unfold Hid;rw [HTK.out,flat_snoc];exact this,HBo.out⟩
      case measure=>simp [intOf];omega
    · obtain rfl:j = l0.length:=by omega
      rw [List.take_length] at hN
      have HN:=Aside0.mk hN
      have HB:=Aside0.mk hB
      clear hN hB
      go_wp2
      go_ret
      exact ⟨_,rfl,HN.out,HB.out⟩
theorem below_lo {B:Nat} {w W:World} (h:Below w.heap.size w W) (hB:B ≤ w.heap.size):Below B w W:=⟨h.os,h.tape,h.output,h.size,fun i hi=>h.block i (Nat.lt_of_lt_of_le hi hB)⟩
set_option maxHeartbeats 8000000 in
set_option maxRecDepth 1000000 in
/-- impl.withTerms over terms whose rows lie apart: the literals' rows lie apart. -/
theorem Try.withTerms_ap (A0:Option Addr) (c0:Nat) (l0:List S65) (AT:Option Addr) (cT:Nat) (t:List (List Int)) (B:Nat) (w:World) (hr0:Kd.C k65 w A0 l0.length l0) (hc0:l0.length ≤ c0) (hS:Kd.S (Kd.slice 3 (Kd.int .i64)) 22 w B (fun _=>True) (.slice AT t.length cT) t) (hBw:B ≤ w.heap.size) (hn:l0.length ≤ 1048576) (htl:t.length = 2 * l0.length) :
    Calls Try.prog 87 #[.slice A0 l0.length c0,.slice AT t.length cT] w fun e w'=>∃ v0_:Value,e = .returned v0_ ∧ Kd.S aLit 65 w' B (fun _=>True) v0_ (zipN l0 t l0.length) ∧ Below w.heap.size w w':=by
  have H0:=Aside0.mk hr0
  obtain ⟨f,hf⟩:=hS
  have HT:=Aside0.mk (Kd.R_mono (Kd.R_bound hf) (ok':=fun k_=>k_ < w.heap.size) (fun k_ h=>h.2.2.1))
  have HB:=Aside0.mk (Below.refl w.heap.size w)
  clear hr0 hf
  go_enter Try.func87,Try.ntmps87
  go_wp2
  go_loopw [5,10] (fun v5 v10 wr=>∃ j:Nat,j ≤ l0.length ∧ v10 = .int .i64 j ∧ Hid (Kd.S aLit 65 wr B (fun k_=>w.heap.size ≤ k_ ∨ f k_ < 2 * j) v5 (zipN l0 t j)) ∧ Hid ((Kd.tag f (Kd.slice 3 (Kd.int .i64))).R 22 wr B (fun k_=>k_ < w.heap.size) (.slice AT t.length cT) t.zipIdx) ∧ Hid (Below w.heap.size w wr) ∧ Hid (∀ k_,v5.ownBlock = some k_ → w.heap.size ≤ k_)) (fun _ v10 _=>l0.length - (intOf v10).toNat)
  case atStart=>exact ⟨0,Nat.zero_le _,rfl,Kd.S_nil _ _ _ _ _,HT.out,HB.out,fun k_ h=>by simp [Value.ownBlock] at h⟩
  case round =>
    clear HT HB
    obtain ⟨j,hj,rfl,hO,hT,hB,hVB⟩:=hrel
    unfold Hid at hO hT hB hVB
    by_cases hp:j < l0.length
    · obtain ⟨ad,L1,e1,L2,e2,eA,q0,q1,q2,z1,i1,z2,i2⟩:=at_T65 H0.out (j:Int) (by omega) (by omega)
      rw [Int.toNat_natCast] at q0 q1 q2
      subst eA
      have hzip:zipN l0 t (j + 1) = zipN l0 t j ++ [⟨(rd_T65 l0 (j:Int)).f0,rd_L2 t (2 * j:Int),rd_L2 t (2 * j + 1:Int)⟩]:=rfl
      generalize rd_T65 l0 (j:Int) = x at hzip q0 q1 q2 z1 i1 z2 i2
      replace q0:=(hB.cell (World.block_lt_of_cell? w _ q0)).trans q0
      replace q1:=(hB.cell (World.block_lt_of_cell? w _ q1)).trans q1
      replace q2:=(hB.cell (World.block_lt_of_cell? w _ q2)).trans q2
      obtain ⟨gT,capT,eT,_,hgTl,csT,hcT⟩:=Kd.R_form hT (by rw [List.length_zipIdx];omega)
      rw [List.length_zipIdx] at eT
      have HNT:=Aside0.mk (Kd.S_ne hO hcT (by decide):some gT ≠ u5.ownBlock)
      have HNG:Aside0 (some wr.heap.size ≠ u5.ownBlock):=⟨fun q_=>Nat.lt_irrefl _ (Kd.S_lt hO _ q_.symm)⟩
      clear hgTl hcT
      injection eT with eT _ eT2
      subst eT eT2
      obtain ⟨ca,hcla,hMa,hcca,_⟩:=Kd.R_elem hT ([],0) (2 * j:Int) (by omega) (by omega)
      obtain ⟨cb,hclb,hMb,hccb,_⟩:=Kd.R_elem hT ([],0) (2 * j + 1:Int) (by omega) (by omega)
      have za:t.zipIdx.getD (2 * (j:Int)).toNat ([],0) = (rd_L2 t (2 * j:Int),2 * j):=by
        have h9:(2 * (j:Int)).toNat = 2 * j:=by omega
        unfold rd_L2
        rw [h9,List.getD_eq_getElem?_getD,List.getElem?_zipIdx,List.getD_eq_getElem?_getD,List.getElem?_eq_getElem (by omega)]
        simp
      have zb:t.zipIdx.getD (2 * (j:Int) + 1).toNat ([],0) = (rd_L2 t (2 * j + 1:Int),2 * j + 1):=by
        have h9:(2 * (j:Int) + 1).toNat = 2 * j + 1:=by omega
        unfold rd_L2
        rw [h9,List.getD_eq_getElem?_getD,List.getElem?_zipIdx,List.getD_eq_getElem?_getD,List.getElem?_eq_getElem (by omega)]
        simp
      rw [za] at hMa
      rw [zb] at hMb
      obtain ⟨va,rfl,ra⟩:=hMa
      obtain ⟨vb,rfl,rb⟩:=hMb
      have ta:wr.cell? ⟨gT,2 * j,none⟩ = some va:=by
        have:=hcca 0 _ rfl
        rw [show (2 * (j:Int)).toNat * (Kd.tag f (Kd.slice 3 (Kd.int .i64))).sz + 0 = 2 * j by show (2 * (j:Int)).toNat * 1 + 0 = 2 * j;omega] at this
        exact this
      have tb:wr.cell? ⟨gT,2 * j + 1,none⟩ = some vb:=by
        have:=hccb 0 _ rfl
        rw [show (2 * (j:Int) + 1).toNat * (Kd.tag f (Kd.slice 3 (Kd.int .i64))).sz + 0 = 2 * j + 1 by show (2 * (j:Int) + 1).toNat * 1 + 0 = 2 * j + 1;omega] at this
        exact this
      have RA:=Aside0.mk (show (Kd.int .i64).R 3 wr B (fun k_=>(k_ < w.heap.size ∧ k_ ≠ gT) ∧ f k_ = 2 * j) va (rd_L2 t (2 * j:Int)) from ra)
      have RB:=Aside0.mk (show (Kd.int .i64).R 3 wr B (fun k_=>(k_ < w.heap.size ∧ k_ ≠ gT) ∧ f k_ = 2 * j + 1) vb (rd_L2 t (2 * j + 1:Int)) from rb)
      clear hcca hccb ra rb
      obtain ⟨Aa,ca_,rfl⟩:=Kd.R_slice RA.out
      obtain ⟨Ab,cb_,rfl⟩:=Kd.R_slice RB.out
      generalize rd_L2 t (2 * j:Int) = ya at hzip RA ta ⊢
      generalize rd_L2 t (2 * j + 1:Int) = yb at hzip RB tb ⊢
      have HZ:=Aside0.mk hzip
      have HO:=Aside0.mk hO
      have HT:=Aside0.mk hT
      have HB:=Aside0.mk hB
      clear hzip hO hT hB i1 i2 z1 z2
      go_upto_region 5 with fail
      have HX:=Aside0.mk (heap_alloc_new wr (.cells #[.bool x.f0,.slice L1 x.f1.length e1,.slice L2 x.f2.length e2] 65))
      have HO:=Aside0.mk (Kd.S_alloc HO.out (.cells #[.bool x.f0,.slice L1 x.f1.length e1,.slice L2 x.f2.length e2] 65))
      have HT:=Aside0.mk (Kd.R_alloc HT.out (.cells #[.bool x.f0,.slice L1 x.f1.length e1,.slice L2 x.f2.length e2] 65))
      have RA:=Aside0.mk (Kd.R_alloc RA.out (.cells #[.bool x.f0,.slice L1 x.f1.length e1,.slice L2 x.f2.length e2] 65))
      have RB:=Aside0.mk (Kd.R_alloc RB.out (.cells #[.bool x.f0,.slice L1 x.f1.length e1,.slice L2 x.f2.length e2] 65))
      have hbl:=below_alloc (Below.refl wr.heap.size wr) (.cells #[.bool x.f0,.slice L1 x.f1.length e1,.slice L2 x.f2.length e2] 65)
      replace ta:=(hbl.cell (World.block_lt_of_cell? wr _ ta)).trans ta
      replace tb:=(hbl.cell (World.block_lt_of_cell? wr _ tb)).trans tb
      have HB:=Aside0.mk (Below.alloc HB.out HB.out.size (.cells #[.bool x.f0,.slice L1 x.f1.length e1,.slice L2 x.f2.length e2] 65))
      clear q0 q1 q2
      obtain ⟨g,hg⟩:∃ g,g = wr.heap.size:=⟨_,rfl⟩
      clear hbl
      have HVB:=Aside0.mk hVB
      clear hVB
      generalize wr.alloc (.cells #[.bool x.f0,.slice L1 x.f1.length e1,.slice L2 x.f2.length e2] 65) = W3 at HX HO HT RA RB ta tb HB ⊢
      rw [← hg] at HX HNG ⊢
      clear hg
      have b0:W3.cell? ⟨g,0,none⟩ = some (.bool x.f0):=(blk_cell HX.out 0).trans rfl
      have hjb:j < 1048576:=by omega
      have hw1:wrap64 (2 * (j:Int)) = 2 * (j:Int):=w64_ (by omega) (by omega)
      have hw2:wrap64 (2 * (j:Int) + 1) = 2 * (j:Int) + 1:=w64_ (by omega) (by omega)
      have hm1:(2 * (j:Int)).toNat = 2 * j:=by omega
      have hm2:(2 * (j:Int) + 1).toNat = 2 * j + 1:=by omega
      have hm3:(0 ≤ 2 * (j:Int)) = True:=eq_true (by omega)
      have hm4:(0 ≤ 2 * (j:Int) + 1) = True:=eq_true (by omega)
      have hm5:(2 * (j:Int) < 2 * (l0.length:Int)) = True:=eq_true (by omega)
      have hm6:(2 * (j:Int) + 1 < 2 * (l0.length:Int)) = True:=eq_true (by omega)
      have hd0:Below W3.heap.size W3 W3.drew:=below_drew1 (Below.refl _ _)
      replace ta:=(hd0.cell (World.block_lt_of_cell? W3 _ ta)).trans ta
      replace tb:=(hd0.cell (World.block_lt_of_cell? W3 _ tb)).trans tb
      replace b0:=(hd0.cell (World.block_lt_of_cell? W3 _ b0)).trans b0
      have HO:=Aside0.mk (Kd.S_drew HO.out)
      have HT:=Aside0.mk (Kd.R_drew HT.out)
      have RA:=Aside0.mk (Kd.R_drew RA.out)
      have RB:=Aside0.mk (Kd.R_drew RB.out)
      have HB:=Aside0.mk (below_drew1 HB.out)
      clear hd0
      have TA:=Aside0.mk ta
      have TB:=Aside0.mk tb
      have B0:=Aside0.mk b0
      refine start_ (n:=18) (S:=fun w'=>w'.cell? ⟨g,0,none⟩ = some (.bool x.f0) ∧ w'.cell? ⟨gT,2 * j,none⟩ = some (.slice Aa ya.length ca_) ∧ w'.cell? ⟨gT,2 * j + 1,none⟩ = some (.slice Ab yb.length cb_)) (ds:=[]) #[false,false,false,false,false,false,false,false,false,false,false,false,false,false,false,false,false,false] (by kernel_rfl) rfl rfl ⟨b0,ta,tb⟩ (fun hHeld=>?_)
      clear ta tb b0 HX
      generalize W3.drew = W4 at HO HT RA RB HB TA TB B0 hHeld ⊢
      refine pure_ (i:=0) (N:=(some 15)) (v:=?_) (a':=?_) #[true,false,false,false,false,false,false,false,false,false,false,false,false,false,false,false,false,false] rfl rfl (by kernel_rfl) (fun _ _ _ h=>h) (Or.inl ⟨by rfl,?_⟩) ?_ ?_
      rotate_left
      · intro w'
        go_simp
        with_reducible rfl
      rotate_left
      · simp only [Act.put,List.setIfInBounds_toArray,List.set_cons_zero,List.set_cons_succ,i64_w,i32_w]
        rfl
      refine pure_ (i:=1) (N:=(some 16)) (v:=?_) (a':=?_) #[true,true,false,false,false,false,false,false,false,false,false,false,false,false,false,false,false,false] rfl rfl (by kernel_rfl) (fun _ _ _ h=>h) (Or.inl ⟨by rfl,?_⟩) ?_ ?_
      rotate_left
      · intro w'
        go_simp
        with_reducible rfl
      rotate_left
      · simp only [Act.put,List.setIfInBounds_toArray,List.set_cons_zero,List.set_cons_succ,i64_w,i32_w]
        rfl
      refine take_ (i:=2) (N:=(some 17)) (v:=?_) (a':=?_) #[true,true,true,false,false,false,false,false,false,false,false,false,false,false,false,false,false,false] rfl rfl (by kernel_rfl) (fun _ _ _ h=>h) (Or.inl ⟨by rfl,?_⟩) hHeld ?_ ?_
      rotate_left
      · intro w' ⟨s0,s1,s2⟩
        go_simp
        with_reducible rfl
      rotate_left
      · simp only [Act.put,List.setIfInBounds_toArray,List.set_cons_zero,List.set_cons_succ,i64_w,i32_w]
        rfl
      refine pure_ (i:=3) (N:=(some 18)) (v:=?_) (a':=?_) #[true,true,true,true,false,false,false,false,false,false,false,false,false,false,false,false,false,false] rfl rfl (by kernel_rfl) (fun _ _ _ h=>h) (Or.inl ⟨by rfl,?_⟩) ?_ ?_
      rotate_left
      · intro w'
        go_simp
        with_reducible rfl
      rotate_left
      · simp only [Act.put,List.setIfInBounds_toArray,List.set_cons_zero,List.set_cons_succ,i64_w,i32_w]
        rfl
      refine pure_ (i:=4) (N:=(some 19)) (v:=?_) (a':=?_) #[true,true,true,true,true,false,false,false,false,false,false,false,false,false,false,false,false,false] rfl rfl (by kernel_rfl) (fun _ _ _ h=>h) (Or.inl ⟨by rfl,?_⟩) ?_ ?_
      rotate_left
      · intro w'
        go_simp
        with_reducible rfl
      rotate_left
      · simp only [Act.put,List.setIfInBounds_toArray,List.set_cons_zero,List.set_cons_succ,i64_w,i32_w]
        rfl
      refine pure_ (i:=5) (N:=(some 20)) (v:=?_) (a':=?_) #[true,true,true,true,true,true,false,false,false,false,false,false,false,false,false,false,false,false] rfl rfl (by kernel_rfl) (fun _ _ _ h=>h) (Or.inl ⟨by rfl,?_⟩) ?_ ?_
      rotate_left
      · intro w'
        go_simp
        with_reducible rfl
      rotate_left
      · simp only [Act.put,List.setIfInBounds_toArray,List.set_cons_zero,List.set_cons_succ,i64_w,i32_w]
        rfl
      refine pure_ (i:=6) (N:=(some 21)) (v:=?_) (a':=?_) #[true,true,true,true,true,true,true,false,false,false,false,false,false,false,false,false,false,false] rfl rfl (by kernel_rfl) (fun _ _ _ h=>h) (Or.inl ⟨by rfl,?_⟩) ?_ ?_
      rotate_left
      · intro w'
        go_simp
        with_reducible rfl
      rotate_left
      · simp only [Act.put,List.setIfInBounds_toArray,List.set_cons_zero,List.set_cons_succ,i64_w,i32_w]
        rfl
      refine take_ (i:=7) (N:=(some 22)) (v:=?_) (a':=?_) #[true,true,true,true,true,true,true,true,false,false,false,false,false,false,false,false,false,false] rfl rfl (by kernel_rfl) (fun _ _ _ h=>h) (Or.inl ⟨by rfl,?_⟩) hHeld ?_ ?_
      rotate_left
      · intro w' ⟨s0,s1,s2⟩
        go_simp
        with_reducible rfl
      rotate_left
      · simp only [Act.put,List.setIfInBounds_toArray,List.set_cons_zero,List.set_cons_succ,i64_w,i32_w]
        rfl
      refine pure_ (i:=8) (N:=(some 23)) (v:=?_) (a':=?_) #[true,true,true,true,true,true,true,true,true,false,false,false,false,false,false,false,false,false] rfl rfl (by kernel_rfl) (fun _ _ _ h=>h) (Or.inl ⟨by rfl,?_⟩) ?_ ?_
      rotate_left
      · intro w'
        go_simp
        with_reducible rfl
      rotate_left
      · simp only [Act.put,List.setIfInBounds_toArray,List.set_cons_zero,List.set_cons_succ,i64_w,i32_w]
        rfl
      refine pure_ (i:=9) (N:=(some 24)) (v:=?_) (a':=?_) #[true,true,true,true,true,true,true,true,true,true,false,false,false,false,false,false,false,false] rfl rfl (by kernel_rfl) (fun _ _ _ h=>h) (Or.inl ⟨by rfl,?_⟩) ?_ ?_
      rotate_left
      · intro w'
        go_simp
        with_reducible rfl
      rotate_left
      · simp only [Act.put,List.setIfInBounds_toArray,List.set_cons_zero,List.set_cons_succ,i64_w,i32_w]
        rfl
      refine pure_ (i:=10) (N:=(some 25)) (v:=?_) (a':=?_) #[true,true,true,true,true,true,true,true,true,true,true,false,false,false,false,false,false,false] rfl rfl (by kernel_rfl) (fun _ _ _ h=>h) (Or.inl ⟨by rfl,?_⟩) ?_ ?_
      rotate_left
      · intro w'
        go_simp
        with_reducible rfl
      rotate_left
      · simp only [Act.put,List.setIfInBounds_toArray,List.set_cons_zero,List.set_cons_succ,i64_w,i32_w]
        rfl
      refine pure_ (i:=11) (N:=(some 26)) (v:=?_) (a':=?_) #[true,true,true,true,true,true,true,true,true,true,true,true,false,false,false,false,false,false] rfl rfl (by kernel_rfl) (fun _ _ _ h=>h) (Or.inl ⟨by rfl,?_⟩) ?_ ?_
      rotate_left
      · intro w'
        go_simp
        with_reducible rfl
      rotate_left
      · simp only [Act.put,List.setIfInBounds_toArray,List.set_cons_zero,List.set_cons_succ,i64_w,i32_w]
        rfl
      refine pure_ (i:=12) (N:=(some 27)) (v:=?_) (a':=?_) #[true,true,true,true,true,true,true,true,true,true,true,true,true,false,false,false,false,false] rfl rfl (by kernel_rfl) (fun _ _ _ h=>h) (Or.inl ⟨by rfl,?_⟩) ?_ ?_
      rotate_left
      · intro w'
        go_simp
        with_reducible rfl
      rotate_left
      · simp only [Act.put,List.setIfInBounds_toArray,List.set_cons_zero,List.set_cons_succ,i64_w,i32_w]
        rfl
      refine take_ (i:=13) (N:=(some 28)) (v:=?_) (a':=?_) #[true,true,true,true,true,true,true,true,true,true,true,true,true,true,false,false,false,false] rfl rfl (by kernel_rfl) (fun _ _ _ h=>h) (Or.inl ⟨by rfl,?_⟩) hHeld ?_ ?_
      rotate_left
      · intro w' ⟨s0,s1,s2⟩
        go_simp
        with_reducible rfl
      rotate_left
      · simp only [Act.put,List.setIfInBounds_toArray,List.set_cons_zero,List.set_cons_succ,i64_w,i32_w]
        rfl
      refine pure_ (i:=14) (N:=(some 29)) (v:=?_) (a':=?_) #[true,true,true,true,true,true,true,true,true,true,true,true,true,true,true,false,false,false] rfl rfl (by kernel_rfl) (fun _ _ _ h=>h) (Or.inl ⟨by rfl,?_⟩) ?_ ?_
      rotate_left
      · intro w'
        go_simp
        with_reducible rfl
      rotate_left
      · simp only [Act.put,List.setIfInBounds_toArray,List.set_cons_zero,List.set_cons_succ,i64_w,i32_w]
        rfl
      refine one_ (i:=15) (N:=(some 30)) #[true,true,true,true,true,true,true,true,true,true,true,true,true,true,true,true,false,false] rfl rfl (by kernel_rfl) (by decide) (fun K hK=>?_)
      refine value_ (w1:=?_) (v:=?_) (by rfl) rfl ?_ ?_
      rotate_left 2
      · go_simp
        constructor
        · rfl
        · rfl
      refine hK.out _ _ ⟨(below_alloc (Below.refl _ _) _).cell (World.block_lt_of_cell? _ _ hHeld.1) |>.trans hHeld.1,(below_alloc (Below.refl _ _) _).cell (World.block_lt_of_cell? _ _ hHeld.2.1) |>.trans hHeld.2.1,(below_alloc (Below.refl _ _) _).cell (World.block_lt_of_cell? _ _ hHeld.2.2) |>.trans hHeld.2.2⟩ (fun hHeld=>?_)
      clear hK K
      refine norm_ (a':=?_) ?_ ?_
      rotate_left
      · show Act.put _ (some 30) _ = _
        simp only [Act.put,List.setIfInBounds_toArray,List.set_cons_zero,List.set_cons_succ,i64_w,i32_w]
        rfl
      refine one_ (i:=16) (N:=(some 31)) #[true,true,true,true,true,true,true,true,true,true,true,true,true,true,true,true,true,false] rfl rfl (by kernel_rfl) (by decide) (fun K hK=>?_)
      have hW2:w.heap.size ≤ W4.heap.size:=HB.out.size
      refine Kd.S_append_step aLit (w0:=w) B (by rfl) (.tmp 15) (.tmp 30) 33 65 (.agg #[.bool false,.slice none 0 0,.slice none 0 0]) 56 rfl Try.underlying33 info65 rfl (by decide) (by decide) u5 (zipN l0 t j) (⟨x.f0,ya,yb⟩:S65) [.bool x.f0,.slice Aa ya.length ca_,.slice Ab yb.length cb_] (fun k_=>w.heap.size ≤ k_ ∨ f k_ < 2 * (j + 1)) (fun k_=>(k_ < w.heap.size ∧ (f k_ = 2 * j ∨ f k_ = 2 * j + 1)) ∧ some k_ ≠ u5.ownBlock) rfl rfl ⟨fun k_=>f k_ = 2 * j,_,_,rfl,Kd.R_mono (Kd.R_apart' RA.out (Kd.S_typed HO.out) (by decide)) (fun k_ h=>⟨⟨⟨h.1.1.1,.inl h.1.2⟩,h.2⟩,h.1.2⟩),Kd.R_mono (Kd.R_apart' RB.out (Kd.S_typed HO.out) (by decide)) (fun k_ h=>⟨⟨⟨h.1.1.1,.inr h.1.2⟩,h.2⟩,by have:=h.1.2;omega⟩)⟩ (fun k_ hk=>⟨.inr (by have:=hk.1.2;omega),hk.2⟩) (fun k_ hk=>.inl (Nat.le_trans hW2 hk)) (Kd.S_mono HO.out (fun k_ h=>⟨h.elim .inl (fun h=>.inr (by omega)),fun q_=>by have h1:=q_.1.1;have h2:=q_.1.2;omega⟩)) (below_lo HB.out hBw) (Nat.le_trans hBw hW2) (by rw [zipN_len];omega) ?_
      intro v1 w1 ho hb hg_ hat_
      have HT2:=Aside0.mk (Kd.R_over' HT.out (Kd.S_typed HO.out) (by show ∀ q,q ∈ 22 :: (Kd.slice 3 (Kd.int .i64)).E → q ≠ 65;decide) hg_)
      have HO2:=Aside0.mk ho
      have HB2:=Aside0.mk (Below.grown HB.out hg_ HB.out.size (fun k_ q_=>HVB.out k_ q_))
      have HVB2:Aside0 (∀ k_,v1.ownBlock = some k_ → w.heap.size ≤ k_):=⟨fun k_ q_=>by rcases hat_ with h9|⟨b_,h9,h8⟩;exact HVB.out k_ (h9 ▸ q_);rw [h9] at q_;injection q_ with q_;omega⟩
      have eT1:=hg_.block gT (World.block_lt_of_cell? _ _ TA.out) HNT.out
      have eG1:=hg_.block g (World.block_lt_of_cell? _ _ B0.out) HNG.out
      have c0:w1.cell? ⟨g,0,none⟩ = some (.bool x.f0):=by have:=B0.out;unfold World.cell? at this ⊢;rw [eG1];exact this
      have c1:w1.cell? ⟨gT,2 * j,none⟩ = some (.slice Aa ya.length ca_):=by have:=TA.out;unfold World.cell? at this ⊢;rw [eT1];exact this
      have c2:w1.cell? ⟨gT,2 * j + 1,none⟩ = some (.slice Ab yb.length cb_):=by have:=TB.out;unfold World.cell? at this ⊢;rw [eT1];exact this
      clear ho hb hg_ hat_ eT1 eG1 hHeld
      refine hK.out _ _ ⟨c0,c1,c2⟩ (fun hHeld=>?_)
      clear hK K
      refine norm_ (a':=?_) ?_ ?_
      rotate_left
      · show Act.put _ (some 31) _ = _
        simp only [Act.put,List.setIfInBounds_toArray,List.set_cons_zero,List.set_cons_succ,i64_w,i32_w]
        rfl
      clear c0 c1 c2
      refine pure_ (i:=17) (N:=(some 5)) (v:=?_) (a':=?_) #[true,true,true,true,true,true,true,true,true,true,true,true,true,true,true,true,true,true] rfl rfl (by kernel_rfl) (fun _ _ _ h=>h) (Or.inl ⟨by rfl,?_⟩) ?_ ?_
      rotate_left
      · intro w'
        go_simp
        with_reducible rfl
      rotate_left
      · simp only [Act.put,List.setIfInBounds_toArray,List.set_cons_zero,List.set_cons_succ,i64_w,i32_w]
        rfl
      clear hHeld
      refine done_ (by kernel_rfl) ?_
      go_wp2
      go_roundw
      case rel=>exact ⟨j + 1,hp,rfl,by have:=HO2.out;unfold Hid;rw [HZ.out];exact this,HT2.out,HB2.out,HVB2.out⟩
      case measure=>simp [intOf];omega
    · obtain rfl:j = l0.length:=by omega
      have HO:=Aside0.mk hO
      have HB:=Aside0.mk hB
      clear hO hB hT hVB
      go_wp2
      go_ret
      exact ⟨_,rfl,Kd.S_mono HO.out (fun _ _=>trivial),HB.out⟩
def impl_concluded.f (k:Nat) (l:List S65):Option (List S65):=(impl_tidy.f k l).bind fun t=>(impl_termsOf.f t).bind fun q=>(impl_rename.f q).bind fun u=>if u.length = 2 * t.length then some (zipN t u t.length) else none
set_option maxHeartbeats 8000000 in
set_option maxRecDepth 1000000 in
theorem Try.renameClause_ap (A0:Option Addr) (c0:Nat) (l0:List S65) (q u:List (List Int)) (w:World) (hr0:Kd.C k65 w A0 l0.length l0) (hc0:l0.length ≤ c0) (hq:impl_termsOf.f l0 = some q) (hu:impl_rename.f q = some u) (hl:u.length = 2 * l0.length) :
    Calls Try.prog 119 #[.slice A0 l0.length c0] w fun e w'=>∃ v0_:Value,e = .returned v0_ ∧ Kd.S aLit 65 w' w.heap.size (fun _=>True) v0_ (zipN l0 u l0.length) ∧ Below w.heap.size w w':=by
  have hn:l0.length ≤ 1048576:=by
    unfold impl_termsOf.f at hq
    split at hq
    · assumption
    · cases hq
  have H0:=Aside0.mk hr0
  have HU:=Aside0.mk hu
  have HL:=Aside0.mk hl
  have HNN:=Aside0.mk hn
  have h1:=impl_termsOf.calls A0 c0 l0 q w hr0 hc0 hq
  clear hr0 hq hu hl hn
  go_enter Try.func119,Try.ntmps119
  go_wp2_with (go_at_call 85;refine h1.mono ?_)
  first|rintro e W1 v rfl hr hd|rintro e W1 ⟨v,rfl,hr,hd⟩
  obtain ⟨A1,c1,rfl⟩:=Kd.N_slice hr
  have h2:=impl_rename.calls A1 c1 q u W1 (Kd.N_reads' hr).2.2 (Kd.N_reads' hr).2.1 HU.out
  have HB:=Aside0.mk hd
  clear h1 hr hd
  go_wp2_with (go_at_call 139;refine h2.mono ?_)
  first|rintro e W2 v rfl hr hd|rintro e W2 ⟨v,rfl,hr,hd⟩
  obtain ⟨A2,c2,rfl⟩:=Kd.S_slice hr
  have hS:=Kd.S_lower hr HB.out.size
  have HB:=Aside0.mk (below_step HB.out hd)
  have h3:=Try.withTerms_ap A0 c0 l0 A2 c2 u w.heap.size W2 (Kd.C_below H0.out HB.out) hc0 hS HB.out.size HNN.out HL.out
  clear h2 hr hd hS
  go_wp2_with (go_at_call 87;refine h3.mono ?_)
  first|rintro e W3 v rfl hr hd|rintro e W3 ⟨v,rfl,hr,hd⟩
  have HR:=Aside0.mk hr
  have HB:=Aside0.mk (below_step HB.out hd)
  clear h3 hr hd
  go_wp2
  go_ret
  exact ⟨_,rfl,HR.out,HB.out⟩
set_option maxHeartbeats 8000000 in
set_option maxRecDepth 1000000 in
theorem impl_concluded.calls (k:Nat) (A0:Option Addr) (c0:Nat) (l0:List S65) (r:List S65) (w:World) (hr0:Kd.C k65 w A0 l0.length l0) (hc0:l0.length ≤ c0) (h:impl_concluded.f k l0 = some r) :
    Calls Try.prog 86 #[.slice A0 l0.length c0] w fun e w'=>∃ v0_:Value,e = .returned v0_ ∧ Kd.S aLit 65 w' w.heap.size (fun _=>True) v0_ r ∧ Below w.heap.size w w':=by
  unfold impl_concluded.f at h
  obtain ⟨t,ht,h⟩:=Option.bind_eq_some_iff.1 h
  obtain ⟨q,hq,h⟩:=Option.bind_eq_some_iff.1 h
  obtain ⟨u,hu,h⟩:=Option.bind_eq_some_iff.1 h
  split at h
  rotate_left
  · cases h
  rename_i hl
  obtain rfl:=Option.some.inj h
  have HL:=Aside0.mk hl
  have HQ:=Aside0.mk hq
  have HU:=Aside0.mk hu
  clear hl hq hu
  have h1:=impl_tidy.calls k A0 c0 l0 t w hr0 hc0 ht
  clear h hr0 ht
  go_enter Try.func86,Try.ntmps86
  go_wp2_with (go_at_call 120;refine h1.mono ?_)
  first|rintro e W1 v rfl hr hd|rintro e W1 ⟨v,rfl,hr,hd⟩
  obtain ⟨A1,c1,rfl⟩:=Kd.N_slice hr
  have h2:=Try.renameClause_ap A1 c1 t q u W1 (Kd.N_reads' hr).2.2 (Kd.N_reads' hr).2.1 HQ.out HU.out HL.out
  have HB:=Aside0.mk hd
  clear h1 hr hd
  go_wp2_with (go_at_call 119;refine h2.mono ?_)
  first|rintro e W2 v rfl hr hd|rintro e W2 ⟨v,rfl,hr,hd⟩
  have HR:=Aside0.mk (Kd.S_lower hr HB.out.size)
  have HB:=Aside0.mk (below_step HB.out hd)
  clear h2 hr hd
  go_wp2
  go_ret
  exact ⟨_,rfl,HR.out,HB.out⟩
def nrmL (k:Nat) (s:List Int) (u:List S65):List (List Int) → Int → Option (List (List Int) × Int)
  | [],a=>some ([],a)
  | t :: r,a=>(impl_Sign_normal.f k s t u).bind fun q=>(nrmL k s u r (wrap64 (a + q.2))).bind fun z=>some (q.1 :: z.1,z.2)
def impl_Sign_normalClause.f (k:Nat) (s:List Int) (c u:List S65):Option (List S65 × Int):=(impl_termsOf.f c).bind fun t=>(nrmL k s u t 0).bind fun q=>(impl_withTerms.f k c q.1).bind fun d=>(impl_concluded.f k d).bind fun r=>some (r,q.2)
set_option maxHeartbeats 16000000 in
set_option maxRecDepth 1000000 in
theorem impl_Sign_normalClause.calls (k:Nat) (A0_0:Option Addr) (c0_0:Nat) (l0_0:List Int) (A1:Option Addr) (c1:Nat) (l1:List S65) (A2:Option Addr) (c2:Nat) (l2:List S65) (r1:List S65) (r2:Int) (w:World) (hr0_0:Kd.C (Kd.int .i64) w A0_0 l0_0.length l0_0) (hc0_0:l0_0.length ≤ c0_0) (hr1:Kd.C k65 w A1 l1.length l1) (hc1:l1.length ≤ c1) (hr2:Kd.C k65 w A2 l2.length l2) (hc2:l2.length ≤ c2) (h:impl_Sign_normalClause.f k l0_0 l1 l2 = some (r1,r2)) :
    Calls Try.prog 53 #[.agg #[.slice A0_0 l0_0.length c0_0],.slice A1 l1.length c1,.slice A2 l2.length c2] w fun e w'=>∃ v0_:Value,e = .returned (.tuple #[v0_,.int .i64 r2]) ∧ Kd.S aLit 65 w' w.heap.size (fun _=>True) v0_ r1 ∧ Below w.heap.size w w':=by
  unfold impl_Sign_normalClause.f at h
  obtain ⟨t,ht,h⟩:=Option.bind_eq_some_iff.1 h
  obtain ⟨⟨q1,q2⟩,hq,h⟩:=Option.bind_eq_some_iff.1 h
  obtain ⟨d,hdd,h⟩:=Option.bind_eq_some_iff.1 h
  obtain ⟨r,hr,h⟩:=Option.bind_eq_some_iff.1 h
  simp only [Option.some.injEq,Prod.mk.injEq] at h
  obtain ⟨rfl,rfl⟩:=h
  have hn:t.length ≤ 2097152:=by
    unfold impl_termsOf.f at ht
    split at ht
    · rename_i g;obtain rfl:=Option.some.inj ht;rw [flat_len];omega
    · cases ht
  have H0:=Aside0.mk hr0_0
  have H1:=Aside0.mk hr1
  have H2:=Aside0.mk hr2
  have HT0:=Aside0.mk ht
  have HQ:=Aside0.mk hq
  have HD0:=Aside0.mk hdd
  have HRR:=Aside0.mk hr
  have bx:Aside0 ((w.alloc (.cells #[.slice A0_0 l0_0.length c0_0] 30)).heap[w.heap.size]? = some (.cells #[.slice A0_0 l0_0.length c0_0] 30 (0,0))):=⟨heap_alloc_new w _⟩
  have HB:Aside0 (Below w.heap.size w (w.alloc (.cells #[.slice A0_0 l0_0.length c0_0] 30))):=⟨Below.alloc (Below.refl _ _) (Nat.le_refl _) _⟩
  clear hr0_0 hr1 hr2 ht hq hdd hr
  go_enter Try.func53,Try.ntmps53
  go_upto_region 1 with fail
  obtain ⟨gs,hgs⟩:∃ g,g = w.heap.size:=⟨_,rfl⟩
  have HGS:Aside0 (w.heap.size ≤ gs):=⟨Nat.le_of_eq hgs.symm⟩
  generalize w.alloc (.cells #[.slice A0_0 l0_0.length c0_0] 30) = W0 at bx HB ⊢
  rw [← hgs] at bx ⊢
  clear hgs
  have h1:=impl_termsOf.calls A1 c1 l1 t W0 (Kd.C_below H1.out HB.out) hc1 HT0.out
  go_wp2_with (go_at_call 85;refine h1.mono ?_;first|rintro e W1 v rfl hr hd|rintro e W1 ⟨v,rfl,hr,hd⟩;have HN:=Aside0.mk (Kd.N_lower hr HB.out.size);have bx:=Aside0.mk ((hd.block gs (blk_lt bx.out)).trans bx.out);have HB:=Aside0.mk (below_step HB.out hd);clear hr hd;obtain ⟨AT,cT,rfl⟩:=Kd.N_slice HN.out)
  go_loopw [9,17] (fun v9 v17 wr=>∃ (j:Nat) (a:Int) (dn rest:List (List Int)),j ≤ t.length ∧ v9 = .int .i64 a ∧ v17 = .int .i64 j ∧ Hid (dn.length = j) ∧ Hid ((nrmL k l0_0 l2 (t.drop j) a).bind (fun z=>some (dn ++ z.1,z.2)) = some (q1,q2)) ∧ Hid (Kd.N (Kd.slice 3 (Kd.int .i64)) 22 wr w.heap.size (fun _=>True) (.slice AT t.length cT) (dn ++ t.drop j)) ∧ Hid (wr.heap[gs]? = some (.cells #[.slice A0_0 l0_0.length c0_0] 30 (0,0))) ∧ Hid (Below w.heap.size w wr)) (fun _ v17 _=>t.length - (intOf v17).toNat)
  case atStart=>exact ⟨0,0,[],[],Nat.zero_le _,rfl,rfl,rfl,by rw [List.drop_zero];unfold Hid;rw [HQ.out];rfl,HN.out,bx.out,HB.out⟩
  case round =>
    rename World=>Wq
    clear HN HB bx HQ
    obtain ⟨j,a,dn,rest,hj,rfl,rfl,hdl,hnq,hN,hbx,hB⟩:=hrel
    unfold Hid at hdl hnq hN hbx hB
    by_cases hp:j < t.length
    · rw [List.drop_eq_getElem_cons hp] at hnq hN
      obtain ⟨gT,capT,eT,_,hgl,csT,hcT⟩:=Kd.N_form hN (by rw [List.length_append,List.length_cons];omega)
      injection eT with eT eL eT2
      clear eL
      subst eT eT2
      have hdr:(t.drop (j + 1)).length = t.length - (j + 1):=List.length_drop
      obtain ⟨c,hcl,hFK,hcc,hfr⟩:=Kd.N_elem hN [] (j:Int) (by omega) (by omega)
      have hget:(dn ++ t[j] :: t.drop (j + 1)).getD ((j:Int)).toNat [] = t[j]:=by
        rw [Int.toNat_natCast,List.getD_eq_getElem?_getD,List.getElem?_append_right (by omega),hdl,Nat.sub_self];rfl
      rw [hget] at hFK
      rw [Int.toNat_natCast] at hcc hfr
      obtain ⟨AX,cX,rfl,hXc,hXF⟩:=Kd.FK_slice_open hFK
      have p0:Wq.cell? ⟨gT,j,none⟩ = some (.slice AX t[j].length cX):=by
        have:=hcc 0 _ rfl
        rwa [show j * (Kd.slice 3 (Kd.int .i64)).sz + 0 = j by show j * 1 + 0 = j;omega] at this
      have p1:Wq.frozen? ⟨gT,j,none⟩ = false:=by
        have:=hfr 0
        rwa [show j * (Kd.slice 3 (Kd.int .i64)).sz + 0 = j by show j * 1 + 0 = j;omega] at this
      have hX:=Kd.F_now hXF
      have hset:∀ y:List Int,(dn ++ t[j] :: t.drop (j + 1)).set j y = (dn ++ [y]) ++ t.drop (j + 1):=fun y=>by
        rw [List.set_append_right _ _ (by omega),hdl,Nat.sub_self,List.set_cons_zero,List.append_assoc];rfl
      clear hcl hFK hcc hfr hXF hget hdr
      generalize t[j] = x at hnq hN p0 hXc hX hset
      simp only [nrmL] at hnq
      obtain ⟨z,hz,hnq⟩:=Option.bind_eq_some_iff.1 hnq
      obtain ⟨⟨xr,xn⟩,hxr,hz⟩:=Option.bind_eq_some_iff.1 hz
      obtain ⟨z2,hz2,hz⟩:=Option.bind_eq_some_iff.1 hz
      simp only [Option.some.injEq] at hz
      subst hz
      have hb0:Wq.cell? ⟨gs,0,none⟩ = some (.slice A0_0 l0_0.length c0_0):=(blk_cell hbx 0).trans rfl
      have hcall:=impl_Sign_normal.calls k A0_0 c0_0 l0_0 AX cX x A2 c2 l2 xr xn Wq (Kd.C_below H0.out hB) hc0_0 hX hXc (Kd.C_below H2.out hB) hc2 hxr
      have hgne:gT ≠ gs:=blk_ne hcT hbx (by decide)
      have hgTB:w.heap.size ≤ gT:=Kd.N_base hN gT rfl
      have HDL:=Aside0.mk hdl
      have HNQ:=Aside0.mk hnq
      have HZ2:=Aside0.mk hz2
      have HN:=Aside0.mk hN
      have HBX:=Aside0.mk hbx
      have HB:=Aside0.mk hB
      have HST:=Aside0.mk hset
      have HGB:=Aside0.mk hgTB
      have HGN:=Aside0.mk hgne
      have hjb:j < 2097152:=by omega
      have HCT:=Aside0.mk hcT
      clear hdl hnq hz2 hN hbx hB hset hxr hgTB hgne hcT
      go_wp2_with (go_at_call 49;refine hcall.mono ?_;first|rintro e W2 v rfl hr hd|rintro e W2 ⟨v,rfl,hr,hd⟩;have hcT2:=(hd.block gT hgl).trans HCT.out;have HN2:=Aside0.mk (Kd.N_below HN.out hd);have HBX2:=Aside0.mk ((hd.block gs (blk_lt HBX.out)).trans HBX.out);have HXR:=Aside0.mk (Kd.R_types hr hcT2 (by decide));have HB2:=Aside0.mk (below_step HB.out hd);obtain ⟨AV,cV,rfl⟩:=Kd.R_slice HXR.out;replace p0:=(hd.cell (World.block_lt_of_cell? Wq _ p0)).trans p0;replace p1:=blk_frozen hcT2 j;clear hr hd hcT2)
      obtain ⟨c9,hcl9,_,hcc9,_⟩:=Kd.N_elem HN2.out [] (j:Int) (by omega) (by omega)
      have hsg:=Kd.N_seg HN2.out (j:Int) (by omega) (by omega) (seg:=[.slice AV xr.length cV]) (j:=0) hcl9 hcc9 (by show 0 + 1 ≤ 1;omega) (x':=xr) (okp:=fun k_=>k_ ≠ gT) (by
        have h9:c9.take 0 ++ [Value.slice AV xr.length cV] ++ c9.drop (0 + 1) = [Value.slice AV xr.length cV]:=by
          have:c9.length = 1:=hcl9
          rw [List.take_zero,List.nil_append,List.drop_eq_nil_of_le (by omega),List.append_nil]
        have h8:[Value.slice AV xr.length cV].length = 1:=rfl
        rw [h8,h9]
        exact fk_slice (Kd.R_reads' HXR.out).2.1 (Kd.F_mono (Kd.R_F HXR.out) (fun k_ h=>h.2))) (fun k_ h=>⟨trivial,h⟩)
      have e9:((j:Int)).toNat * (Kd.slice 3 (Kd.int .i64)).sz + 0 = j:=by rw [Int.toNat_natCast];show j * 1 + 0 = j;omega
      rw [e9,Int.toNat_natCast,HST.out] at hsg
      have HN3:=Aside0.mk (show Kd.N (Kd.slice 3 (Kd.int .i64)) 22 (W2.setCell ⟨gT,j,none⟩ (.slice AV xr.length cV)) w.heap.size (fun _=>True) (.slice (some ⟨gT,0,none⟩) t.length cT) ((dn ++ [xr]) ++ t.drop (j + 1)) from hsg.1)
      have HBX3:=Aside0.mk (blk_far HBX2.out (p:=⟨gT,j,none⟩) (fun e=>HGN.out e.symm) (.slice AV xr.length cV))
      have HB3:=Aside0.mk (below_set HB2.out HGB.out (j:=j) (v:=.slice AV xr.length cV))
      clear hsg hcl9 hcc9
      go_roundw
      case rel=>exact ⟨j + 1,wrap64 (a + xn),dn ++ [xr],[],hp,rfl,rfl,by have:=HDL.out;unfold Hid;rw [List.length_append,List.length_singleton];omega,by have:=HNQ.out;unfold Hid;rw [HZ2.out,Option.bind_some,List.append_assoc];exact this,HN3.out,HBX3.out,HB3.out⟩
      case measure=>simp [intOf];omega
    · obtain rfl:j = t.length:=by omega
      rw [List.drop_length,List.append_nil] at hN
      rw [List.drop_length] at hnq
      simp only [nrmL,Option.bind_some,List.append_nil,Option.some.injEq,Prod.mk.injEq] at hnq
      obtain ⟨rfl,rfl⟩:=hnq
      rw [← hdl] at hN ⊢
      have hcall:=impl_withTerms.calls k A1 c1 l1 (fun _=>True) AT cT dn d Wq (Kd.C_below H1.out hB) hc1 (Kd.N_V hN) HD0.out
      have HB:=Aside0.mk hB
      clear hN hB hbx hn hj hp hdl
      go_wp2_with (go_at_call 87;refine hcall.mono ?_)
      first|rintro e W3 v rfl hr hd|rintro e W3 ⟨v,rfl,hr,hd⟩
      obtain ⟨AD,cD,rfl⟩:=Kd.N_slice hr
      have hcall2:=impl_concluded.calls k AD cD d r W3 (Kd.N_reads' hr).2.2 (Kd.N_reads' hr).2.1 HRR.out
      have HB:=Aside0.mk (below_step HB.out hd)
      clear hr hd hcall
      go_wp2_with (go_at_call 86;refine hcall2.mono ?_;first|rintro e W4 v rfl hr hd|rintro e W4 ⟨v,rfl,hr,hd⟩;have HR:=Aside0.mk (Kd.S_lower hr HB.out.size);have HB:=Aside0.mk (below_step HB.out hd);clear hr hd)
      go_ret2
      exact ⟨_,rfl,HR.out,HB.out⟩
def impl_NormalClause.f (k:Nat) (s:List Int) (c u:List S65):Option (List S65 × Int × Bool):=(impl_GoodClause.f k s c).bind fun g=>if g = true then (impl_Sign_areUnits.f k s u).bind fun b=>if b = true then (impl_Sign_normalClause.f k s c u).bind fun q=>some (q.1,q.2,true) else some ([],0,false) else some ([],0,false)
set_option maxHeartbeats 16000000 in
set_option maxRecDepth 1000000 in
theorem impl_NormalClause.calls (k:Nat) (A0_0:Option Addr) (c0_0:Nat) (l0_0:List Int) (A1:Option Addr) (c1:Nat) (l1:List S65) (A2:Option Addr) (c2:Nat) (l2:List S65) (r1:List S65) (r2:Int) (r3:Bool) (w:World) (hr0_0:Kd.C (Kd.int .i64) w A0_0 l0_0.length l0_0) (hc0_0:l0_0.length ≤ c0_0) (hr1:Kd.C k65 w A1 l1.length l1) (hc1:l1.length ≤ c1) (hr2:Kd.C k65 w A2 l2.length l2) (hc2:l2.length ≤ c2) (h:impl_NormalClause.f k l0_0 l1 l2 = some (r1,r2,r3)) :
    Calls Try.prog 28 #[.agg #[.slice A0_0 l0_0.length c0_0],.slice A1 l1.length c1,.slice A2 l2.length c2] w fun e w'=>∃ v0_:Value,e = .returned (.tuple #[v0_,.int .i64 r2,.bool r3]) ∧ Kd.S aLit 65 w' w.heap.size (fun _=>True) v0_ r1 ∧ Below w.heap.size w w':=by
  unfold impl_NormalClause.f at h
  obtain ⟨g,hg,h⟩:=Option.bind_eq_some_iff.1 h
  have H0:=Aside0.mk hr0_0
  have H1:=Aside0.mk hr1
  have H2:=Aside0.mk hr2
  have HH:=Aside0.mk h
  have HG:=Aside0.mk hg
  have bx:Aside0 ((w.alloc (.cells #[.slice A0_0 l0_0.length c0_0] 30)).heap[w.heap.size]? = some (.cells #[.slice A0_0 l0_0.length c0_0] 30 (0,0))):=⟨heap_alloc_new w _⟩
  have HB:Aside0 (Below w.heap.size w (w.alloc (.cells #[.slice A0_0 l0_0.length c0_0] 30))):=⟨Below.alloc (Below.refl _ _) (Nat.le_refl _) _⟩
  clear hr0_0 hr1 hr2 h hg
  go_enter Try.func28,Try.ntmps28
  go_upto_region 1 with fail
  obtain ⟨gs,hgs⟩:∃ g,g = w.heap.size:=⟨_,rfl⟩
  generalize w.alloc (.cells #[.slice A0_0 l0_0.length c0_0] 30) = W0 at bx HB ⊢
  rw [← hgs] at bx ⊢
  clear hgs
  have hb0:W0.cell? ⟨gs,0,none⟩ = some (.slice A0_0 l0_0.length c0_0):=(blk_cell bx.out 0).trans rfl
  have h1:=impl_GoodClause.calls k A0_0 c0_0 l0_0 A1 c1 l1 g W0 (Kd.C_below H0.out HB.out) hc0_0 (Kd.C_below H1.out HB.out) hc1 HG.out
  cases g with
  | false =>
    have h9:=HH.out
    simp only [Bool.false_eq_true,if_false,Option.some.injEq,Prod.mk.injEq] at h9
    obtain ⟨rfl,rfl,rfl⟩:=h9
    clear HH HG
    go_wp2_with (go_at_call 52;refine h1.mono ?_;first|rintro e_ W1 rfl hd|rintro e_ W1 ⟨rfl,hd⟩;have HB:=Aside0.mk (below_step HB.out hd);clear hd)
    go_ret3
    exact ⟨_,rfl,Kd.S_nil _ _ _ _ _,HB.out⟩
  | true =>
    have h9:=HH.out
    simp only [if_true] at h9
    obtain ⟨b,hb,h9⟩:=Option.bind_eq_some_iff.1 h9
    have HBU:=Aside0.mk hb
    cases b with
    | false =>
      simp only [Bool.false_eq_true,if_false,Option.some.injEq,Prod.mk.injEq] at h9
      obtain ⟨rfl,rfl,rfl⟩:=h9
      clear HH HG hb
      go_wp2_with (first
        | (go_at_call 52;refine h1.mono ?_;first|rintro e_ W1 rfl hd|rintro e_ W1 ⟨rfl,hd⟩;have bx1:=Aside0.mk ((hd.block gs (blk_lt bx.out)).trans bx.out);have HB1:=Aside0.mk (below_step HB.out hd);clear hd;have hb1:W1.cell? ⟨gs,0,none⟩ = some (.slice A0_0 l0_0.length c0_0):=(blk_cell bx1.out 0).trans rfl;have h2:=impl_Sign_areUnits.calls k A0_0 c0_0 l0_0 A2 c2 l2 false W1 (Kd.C_below H0.out HB1.out) hc0_0 (Kd.C_below H2.out HB1.out) hc2 HBU.out)
        | (go_at_call 45;refine h2.mono ?_;first|rintro e_ W2 rfl hd|rintro e_ W2 ⟨rfl,hd⟩;have HB2:=Aside0.mk (below_step HB1.out hd);clear hd))
      go_ret3
      exact ⟨_,rfl,Kd.S_nil _ _ _ _ _,HB2.out⟩
    | true =>
      simp only [if_true] at h9
      obtain ⟨⟨q1,q2⟩,hq,h9⟩:=Option.bind_eq_some_iff.1 h9
      simp only [Option.some.injEq,Prod.mk.injEq] at h9
      obtain ⟨rfl,rfl,rfl⟩:=h9
      have HQ:=Aside0.mk hq
      clear HH HG hb hq
      go_wp2_with (first
        | (go_at_call 52;refine h1.mono ?_;first|rintro e_ W1 rfl hd|rintro e_ W1 ⟨rfl,hd⟩;have bx1:=Aside0.mk ((hd.block gs (blk_lt bx.out)).trans bx.out);have HB1:=Aside0.mk (below_step HB.out hd);clear hd;have hb1:W1.cell? ⟨gs,0,none⟩ = some (.slice A0_0 l0_0.length c0_0):=(blk_cell bx1.out 0).trans rfl;have h2:=impl_Sign_areUnits.calls k A0_0 c0_0 l0_0 A2 c2 l2 true W1 (Kd.C_below H0.out HB1.out) hc0_0 (Kd.C_below H2.out HB1.out) hc2 HBU.out)
        | (go_at_call 45;refine h2.mono ?_;first|rintro e_ W2 rfl hd|rintro e_ W2 ⟨rfl,hd⟩;have bx2:=Aside0.mk ((hd.block gs (blk_lt bx1.out)).trans bx1.out);have HB2:=Aside0.mk (below_step HB1.out hd);clear hd;have hb2:W2.cell? ⟨gs,0,none⟩ = some (.slice A0_0 l0_0.length c0_0):=(blk_cell bx2.out 0).trans rfl;have h3:=impl_Sign_normalClause.calls k A0_0 c0_0 l0_0 A1 c1 l1 A2 c2 l2 q1 q2 W2 (Kd.C_below H0.out HB2.out) hc0_0 (Kd.C_below H1.out HB2.out) hc1 (Kd.C_below H2.out HB2.out) hc2 HQ.out)
        | (go_at_call 53;refine h3.mono ?_;first|rintro e_ W3 v rfl hr hd|rintro e_ W3 ⟨v,rfl,hr,hd⟩;have HR:=Aside0.mk (Kd.S_lower hr HB2.out.size);have HB3:=Aside0.mk (below_step HB2.out hd);clear hr hd))
      go_ret3
      exact ⟨_,rfl,HR.out,HB3.out⟩

end Go.Proofs.Ytlgnanbnicmdaab.QFnExactNormalClause
