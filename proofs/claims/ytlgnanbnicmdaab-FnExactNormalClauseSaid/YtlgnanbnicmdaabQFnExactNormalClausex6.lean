-- Written by this session's own program (wip/x/xprint.py, over the kit's printer); Lean checks it.
import Derived.Test.YtlgnanbnicmdaabQFnExactNormalClausex0
import Derived.Test.YtlgnanbnicmdaabQFnExactNormalClausex4
import Derived.Test.YtlgnanbnicmdaabQFnExactNormalClausex5
namespace Go.Proofs.Ytlgnanbnicmdaab.QFnExactNormalClause
open Go.RowKit Go.Proofs.YtlgnanbnicmdaabW.PrintWords Go.Proofs.YtlgnanbnicmdaabW.PrintLast Go.Proofs.YtlgnanbnicmdaabW.PrintMore
attribute [local go_sem] max2_int min2_int max_two min_two max_three min_three max_four min_four   -- for this text's walks alone
set_option linter.unusedVariables false
set_option linter.unusedSimpArgs false

/-! ### spec_l7Step: function 42, by a walk of this session's own -/
/-! ### Rows of the call's own, told by where their blocks lie -/
def Iv (lo hi:Nat):Nat → Prop:=fun b=>lo ≤ b ∧ b < hi
theorem iv_of {α:Type} {d:Kd α} {e:Nat} {W W':World} {v:Value} {xs:List α} (B:Nat) (h:d.R e W' W.heap.size (fun _=>True) v xs) (hb:B ≤ W.heap.size):d.R e W' B (Iv W.heap.size W'.heap.size) v xs :=
  Kd.R_lower (Kd.R_mono (Kd.R_bound h) (fun _ hk=>⟨hk.2.1,hk.2.2.1⟩)) hb
theorem iv_step {α:Type} {d:Kd α} {e B lo hi:Nat} {W W':World} {v:Value} {xs:List α} {P:Nat → Prop} (h:d.R e W B (Iv lo hi) v xs) (hk:Kept W W' P) (hn:∀ b,lo ≤ b → b < hi → ¬ P b):d.R e W' B (Iv lo hi) v xs :=
  Kd.R_step h (fun k ho hlt=>hk.2 k hlt (hn k ho.1 ho.2))
theorem iv_below {α:Type} {d:Kd α} {e B lo hi:Nat} {W W':World} {v:Value} {xs:List α} (h:d.R e W B (Iv lo hi) v xs) (hb:Below W.heap.size W W'):d.R e W' B (Iv lo hi) v xs:=Kd.R_below h hb
def Bx (W:World) (g:Nat) (v:Value) (t:Nat):Prop:=W.heap[g]? = some (.cells #[v] t (0,0))
theorem Bx.lt {W:World} {g t:Nat} {v:Value} (h:Bx W g v t):g < W.heap.size:=(Array.getElem?_eq_some_iff.1 h).1
theorem Bx.below {W W':World} {g t:Nat} {v:Value} (h:Bx W g v t) (hb:Below W.heap.size W W'):Bx W' g v t:=(hb.block g h.lt).trans h
theorem Bx.step {W W':World} {g t:Nat} {v:Value} {P:Nat → Prop} (h:Bx W g v t) (hk:Kept W W' P) (hn:¬ P g):Bx W' g v t:=(hk.2 g h.lt hn).trans h
theorem Bx.cell {W:World} {g t:Nat} {v:Value} (h:Bx W g v t):W.cell? ⟨g,0,none⟩ = some v:=by
  unfold Bx at h
  simp [World.cell?,h]
/-- What is known of a sign's row made in a region that draws. -/
structure SgRow (W0 W:World) (A:Option Addr) (c:Nat) (l:List Int):Prop where
  bl:Below W0.heap.size W0 W
  rd:(Kd.int .i64).C W A l.length l
  le:l.length ≤ c
theorem SgRow.drewN {W0 W:World} {A:Option Addr} {c:Nat} {l:List Int} (h:SgRow W0 W A c l) (n:Nat):SgRow W0 (W.drewN n) A c l:=⟨pw_below_drewN h.bl n,Kd.C_drewN h.rd n,h.le⟩
theorem SgRow.drew {W0 W:World} {A:Option Addr} {c:Nat} {l:List Int} (h:SgRow W0 W A c l):SgRow W0 W.drew A c l:=h.drewN 1
theorem later {P Q:Prop} (main:P → Q) (h:P):Q:=main h
/-! ### A row of rows of whole numbers, of the call's own: its block g; the rows are only read -/
abbrev CI (w:World) (A:Option Addr) (l:List Int):Prop:=(Kd.int .i64).C w A l.length l
theorem ci_reads {w:World} {A:Option Addr} {l:List Int} (h:CI w A l):ReadsOf (Value.int .i64) (0:Int) w A l.length l:=Kd.reads_of_C h
theorem ci_of {w:World} {A:Option Addr} {l:List Int} (h:ReadsOf (Value.int .i64) (0:Int) w A l.length l):CI w A l:=Kd.C_of_reads (d:=(0:Int)) (h1:=fun _=>rfl) h
/-- A store over a cell that holds a slice. -/
theorem ci_set {w:World} {A:Option Addr} {l:List Int} (h:CI w A l) {p:Addr} {A':Option Addr} {n c:Nat} (hp:w.cell? p = some (.slice A' n c)) (u:Value):CI (w.setCell p u) A l:=by
  refine ci_of ⟨rfl,(ci_reads h).2.1,fun hn=>?_⟩
  obtain ⟨ad,e,hc⟩:=(ci_reads h).2.2 hn
  refine ⟨ad,e,fun j hj=>?_⟩
  rw [World.cell?_setCell_other _ _ _ _ (fun e=>by have:=hc j hj;rw [← e,hp] at this;cases this)]
  exact hc j hj
theorem ci_elem {w:World} {A:Option Addr} {l:List Int} (h:CI w A l) (j:Nat) (hj:j < l.length):∃ ad,A = some ad ∧ w.cell? (ad.add j) = some (.int .i64 (rd l (j:Int))):=by
  obtain ⟨ad,e,hc⟩:=(ci_reads h).2.2 (by omega)
  refine ⟨ad,e,?_⟩
  rw [hc j hj]
  unfold rd
  rw [Int.toNat_natCast]
structure Rows2 (w:World) (g:Nat) (xs:List (List Int)):Prop where
  blk:∃ cs:Array Value,w.heap[g]? = some (.cells cs 22 (0,0))
  rd:∀ j,j < xs.length → ∃ A c,w.cell? ⟨g,j,none⟩ = some (.slice A (xs.getD j []).length c) ∧ (xs.getD j []).length ≤ c ∧ CI w A (xs.getD j [])
theorem Rows2.lt {w:World} {g:Nat} {xs:List (List Int)} (h:Rows2 w g xs):g < w.heap.size:=(Array.getElem?_eq_some_iff.1 h.blk.choose_spec).1
theorem Rows2.below {w w':World} {g:Nat} {xs:List (List Int)} (h:Rows2 w g xs) (hb:Below w.heap.size w w'):Rows2 w' g xs:=by
  obtain ⟨⟨cs,hc⟩,hr⟩:=h
  have hlt:=(Array.getElem?_eq_some_iff.1 hc).1
  refine ⟨⟨cs,(hb.block g hlt).trans hc⟩,fun j hj=>?_⟩
  obtain ⟨A,c,h1,h2,h3⟩:=hr j hj
  exact ⟨A,c,(Below.cell hb hlt).trans h1,h2,Kd.C_below h3 hb⟩
theorem Rows2.frozen {w:World} {g:Nat} {xs:List (List Int)} (h:Rows2 w g xs) (j:Nat):w.frozen? ⟨g,j,none⟩ = false:=by
  obtain ⟨⟨cs,hc⟩,_⟩:=h
  exact blk_frozen hc j
theorem blk_setCell {w:World} {g:Nat} {cs:Array Value} {t:Nat} (hc:w.heap[g]? = some (.cells cs t (0,0))) (j:Nat) (u:Value):∃ cs',(w.setCell ⟨g,j,none⟩ u).heap[g]? = some (.cells cs' t (0,0)):=⟨_,blk_put hc j u rfl⟩
theorem Rows2.set {w:World} {g:Nat} {xs:List (List Int)} (h:Rows2 w g xs) (j:Nat) (hj:j < xs.length) {A:Option Addr} {c:Nat} {x:List Int} (hx:CI w A x) (hc:x.length ≤ c):Rows2 (w.setCell ⟨g,j,none⟩ (.slice A x.length c)) g (xs.set j x):=by
  have h0:=h
  obtain ⟨⟨cs,hcs⟩,hr⟩:=h
  obtain ⟨A0,c0,p0,_,_⟩:=hr j hj
  refine ⟨blk_setCell hcs j _,fun i hi=>?_⟩
  rw [List.length_set] at hi
  by_cases e:i = j
  · subst e
    refine ⟨A,c,?_,?_,?_⟩
    · rw [World.cell?_setCell_same _ _ _ p0]
      simp [List.getD_eq_getElem?_getD,hi]
    · simpa [List.getD_eq_getElem?_getD,hi] using hc
    · have:(xs.set i x).getD i [] = x:=by simp [List.getD_eq_getElem?_getD,hi]
      rw [this]
      exact ci_set hx p0 _
  · obtain ⟨A1,c1,p1,p2,p3⟩:=hr i hi
    have e2:(xs.set j x).getD i [] = xs.getD i []:=by rw [List.getD_eq_getElem?_getD,List.getD_eq_getElem?_getD,List.getElem?_set_ne (fun q=>e q.symm)]
    rw [e2]
    exact ⟨A1,c1,by rw [World.cell?_setCell_other _ _ _ _ (by intro q;cases q;exact e rfl)];exact p1,p2,ci_set p3 p0 _⟩
theorem Bx.set {W:World} {g t gb j:Nat} {v:Value} (h:Bx W g v t) {u u0:Value} (hne:g ≠ gb):Bx (W.setCell ⟨gb,j,none⟩ u) g v t:=by
  unfold Bx at h ⊢
  rw [Below.heap_setCell W ⟨gb,j,none⟩ u g hne]
  exact h
theorem ci_kd {w:World} {g:Nat} {xs:List (List Int)} (h:Rows2 w g xs) (hl:xs.length ≤ 1000000):Kd.C (Kd.slice 3 (Kd.int .i64)) w (some ⟨g,0,none⟩) xs.length xs:=by
  refine ⟨rfl,by omega,fun _=>⟨_,rfl,fun j p hj=>?_⟩⟩
  obtain ⟨hjl,hjp⟩:=List.getElem?_eq_some_iff.1 hj
  obtain ⟨A,c,h1,h2,h3⟩:=h.rd j hjl
  have e:xs.getD j [] = p:=by rw [List.getD_eq_getElem?_getD,hj];rfl
  rw [e] at h1 h2 h3
  refine ⟨[.slice A p.length c],rfl,⟨A,c,rfl,h2,h3⟩,fun i u hu=>?_⟩
  have:i = 0:=by
    have:=(List.getElem?_eq_some_iff.1 hu).1
    simp at this
    exact this
  subst this
  have hu':Value.slice A p.length c = u:=by simpa using hu
  subst hu'
  rw [add_plain]
  simpa [Kd.slice] using h1
/-- All rows of whole numbers read as they did. -/
def KI (w w':World):Prop:=∀ A l,CI w A l → CI w' A l
theorem KI.refl (w:World):KI w w:=fun _ _ h=>h
theorem KI.below {w w1 w2:World} (h:KI w w1) (hb:Below w1.heap.size w1 w2):KI w w2:=fun A l hc=>Kd.C_below (h A l hc) hb
theorem KI.set {w w1:World} (h:KI w w1) {p:Addr} {A':Option Addr} {n c:Nat} (hp:w1.cell? p = some (.slice A' n c)) (u:Value):KI w (w1.setCell p u):=fun A l hc=>ci_set (h A l hc) hp u
theorem Rows2.drew {w:World} {g:Nat} {xs:List (List Int)} (h:Rows2 w g xs):Rows2 w.drew g xs:=h.below (below_drew (Below.refl _ _))
theorem Try.rows_info:(Try.prog.info? 22).map (fun i=>(i.zero,i.size,i.bytes)) = some (some (.slice none 0 0),1,24):=by kernel_rfl
def mk12:Array Value:=madeCells (Value.slice none 0 0).cells (12 * 1)
theorem mk12_get (j:Nat) (hj:j < 12):mk12[j]? = some (.slice none 0 0):=by
  have e:mk12.toList = List.replicate 12 (.slice none 0 0):=toList_madeCells_one _ _
  rw [← Array.getElem?_toList,e,List.getElem?_replicate,if_pos hj]
theorem run_mk12 (w:World):(Instr.makeSlice 105 (.int .i64 12) (.int .i64 12)).run Try.prog w = .ok (.slice (some ⟨w.heap.size,0,none⟩) 12 12) (w.alloc (.cells mk12 22)):=by
  obtain ⟨i0,hi,hz0,hz1,hz2⟩:=info_parts Try.rows_info
  have:=run_make (P:=Try.prog) (w:=w) 105 22 i0 (.slice none 0 0) Try.underlying105 hi hz0 .i64 .i64 12 12 (by decide) (by decide) (by rw [hz2];decide) (by decide)
  rw [hz1] at this
  exact this
theorem rep_getD (n j:Nat):(List.replicate n ([]:List Int)).getD j [] = []:=by
  rw [List.getD_eq_getElem?_getD,List.getElem?_replicate]
  split <;> rfl
theorem rows2_new (w:World):Rows2 (w.alloc (.cells mk12 22)) w.heap.size (List.replicate 12 []):=by
  have h:=heap_alloc_new w (.cells mk12 22)
  refine ⟨⟨_,h⟩,fun j hj=>⟨none,0,?_,?_,?_⟩⟩
  · rw [List.length_replicate] at hj
    rw [rep_getD]
    unfold World.cell?
    rw [h]
    exact mk12_get j hj
  · rw [rep_getD]
    exact Nat.le_refl _
  · rw [rep_getD]
    exact ci_of ⟨rfl,by simp,fun h=>by simp at h⟩
theorem results_tmp4 {fn:Func} {t u v x:Tmp} (h:fn.results = #[.tmp t,.tmp u,.tmp v,.tmp x]) (tmps:Array Value) (P:Program) (w:World) :
    (results fn tmps).run P w = .ok (.tuple #[tmps.getD t undef,tmps.getD u undef,tmps.getD v undef,tmps.getD x undef]) w:=by
  simp [results,h]
def spec_l2Match.go (k:Nat) (s t:List Int):List Int → List (List Int) → Nat → Option (List (List Int) × Bool)
  | [],b,_=>some (b,true)
  | n :: p,b,j=>if 0 ≤ n then (if j < t.length then (if n = rd t (j:Int) then spec_l2Match.go k s t p b (j + 1) else some ([],false)) else none)
    else if -1 - n < (b.length:Int) ∧ -1000000 ≤ n then (spec_l1Part.f k s t (j:Int)).bind fun x=>if j + x.length ≤ 1000000 then
      (if 0 < (b.getD (-1 - n).toNat []).length then (spec_l1Same.f k (b.getD (-1 - n).toNat []) x).bind fun e=>if e = true then spec_l2Match.go k s t p (b.set (-1 - n).toNat x) (j + x.length) else some ([],false)
       else spec_l2Match.go k s t p (b.set (-1 - n).toNat x) (j + x.length)) else none
    else none
set_option maxHeartbeats 8000000 in
set_option maxRecDepth 1000000 in
theorem spec_l2Match.walk (k:Nat) (A0:Option Addr) (c0:Nat) (s:List Int) (g cb:Nat) (b:List (List Int)) (A2:Option Addr) (c2:Nat) (p:List Int) (A3:Option Addr) (c3:Nat) (t:List Int) (r:List (List Int) × Bool) (w0 w:World) (hB0:Below w0.heap.size w0 w) (hg:w0.heap.size ≤ g) (hs:CI w A0 s) (hs2:s.length ≤ c0) (hb:Rows2 w g b) (hp:CI w A2 p) (hp2:p.length ≤ c2) (ht:CI w A3 t) (ht2:t.length ≤ c3) (htl:t.length ≤ 1000000) (hpl:p.length ≤ 1000000)
    (h:spec_l2Match.go k s t p b 0 = some r) :
    Calls Try.prog 103 #[.agg #[.slice A0 s.length c0],.slice (some ⟨g,0,none⟩) b.length cb,.slice A2 p.length c2,.slice A3 t.length c3] w fun e w'=>∃ v,e = .returned (.tuple #[v,.bool r.2]) ∧ Aside0 (Below w0.heap.size w0 w' ∧ KI w w' ∧ Kept w w' (fun k_=>k_ = g) ∧ (r.2 = true → v = .slice (some ⟨g,0,none⟩) b.length cb ∧ r.1.length = b.length ∧ Rows2 w' g r.1)):=by
  have HS:=Aside0.mk hs
  have HP:=Aside0.mk hp
  have HT:=Aside0.mk ht
  have H:=Aside0.mk h
  clear hs hp ht h
  have bx:Aside0 (Bx (w.alloc (.cells #[.slice A0 s.length c0] 30)) w.heap.size (.slice A0 s.length c0) 30):=⟨heap_alloc_new w _⟩
  have ha:Below w.heap.size w (w.alloc (.cells #[.slice A0 s.length c0] 30)):=Below.alloc (Below.refl _ _) (Nat.le_refl _) _
  have hgb:w.heap.size ≠ g:=by have:=hb.lt;omega
  have HGB:=Aside0.mk hgb
  have HR:=Aside0.mk (hb.below ha)
  have HB:=Aside0.mk (below_step hB0 ha)
  have HK:=Aside0.mk (Kept.of_below ha (fun k_=>k_ = g))
  have HI:=Aside0.mk ((KI.refl w).below ha)
  have HG:=Aside0.mk hg
  have HW:=Aside0.mk hB0.size
  have hglt:=hb.lt
  clear ha hb hB0 hg hgb
  go_enter Try.func103,Try.ntmps103
  go_upto_region 1 with fail
  generalize w.alloc (.cells #[.slice A0 s.length c0] 30) = W0 at bx HR HB HK HI ⊢
  go_wp2
  go_loopw [10,11] (fun v10 v11 wr=>∃ (i j:Nat) (b':List (List Int)),i ≤ p.length ∧ j ≤ 1000000 ∧ v10 = .int .i64 i ∧ v11 = .int .i64 j ∧ Hid (b'.length = b.length) ∧ Hid (spec_l2Match.go k s t (p.drop i) b' j = some r) ∧ Hid (Rows2 wr g b') ∧ Hid (Bx wr w.heap.size (.slice A0 s.length c0) 30) ∧ Hid (Below w0.heap.size w0 wr) ∧ Hid (Kept w wr (fun k_=>k_ = g)) ∧ Hid (KI w wr)) (fun v10 _ _=>p.length - (intOf v10).toNat)
  case atStart=>exact ⟨0,0,b,Nat.zero_le _,by omega,rfl,rfl,rfl,H.out,HR.out,bx.out,HB.out,HK.out,HI.out⟩
  case round =>
    clear HR bx HB HK HI H
    obtain ⟨i,j,b',hi,hj,rfl,rfl,hbl,hgo,hR,hbx,hB,hK,hI⟩:=hrel
    unfold Hid at hbl hgo hR hbx hB hK hI
    have HR:=Aside0.mk hR
    have BX:=Aside0.mk hbx
    have HB:=Aside0.mk hB
    have HK:=Aside0.mk hK
    have HI:=Aside0.mk hI
    by_cases hp:i < p.length
    · rw [List.drop_eq_getElem_cons hp] at hgo
      obtain ⟨ap,eap,hpc⟩:=ci_elem (hI _ _ HP.out) i hp
      have hrd:rd p (i:Int) = p[i]:=by unfold rd;simp [List.getD_eq_getElem?_getD,hp]
      rw [hrd] at hpc
      subst eap
      generalize p[i] = n at hgo hpc hrd
      clear hrd
      simp only [spec_l2Match.go] at hgo
      by_cases g0:0 ≤ n
      · rw [if_pos g0] at hgo
        by_cases g1:j < t.length
        · rw [if_pos g1] at hgo
          obtain ⟨at_,eat,htc⟩:=ci_elem (hI _ _ HT.out) j g1
          subst eat
          by_cases g2:n = rd t (j:Int)
          · rw [if_pos g2] at hgo
            rw [← g2] at htc
            have HGO:=Aside0.mk hgo
            clear hgo hR hbx hB hK hI g2
            go_upto_region 4 with fail
            go_region
            go_wp2
            go_roundw
            case rel=>exact ⟨i + 1,j + 1,b',by omega,by omega,rfl,rfl,hbl,HGO.out,HR.out.drew,BX.out,below_drew1 HB.out,HK.out,HI.out⟩
            case measure=>simp [intOf];omega
          · rw [if_neg g2] at hgo
            obtain rfl:=Option.some.inj hgo
            clear hgo hR hbx hB hK hI
            go_upto_region 4 with fail
            go_region
            go_wp2
            go_ret2
            exact ⟨⟨_,rfl⟩,⟨below_drew1 HB.out,HI.out,HK.out⟩⟩
        · rw [if_neg g1] at hgo
          cases hgo
      · rw [if_neg g0] at hgo
        by_cases gv:-1 - n < (b'.length:Int) ∧ -1000000 ≤ n
        rotate_left
        · rw [if_neg gv] at hgo
          cases hgo
        rw [if_pos gv] at hgo
        obtain ⟨vn,hvn⟩:∃ vn:Nat,-1 - n = (vn:Int):=⟨(-1 - n).toNat,by omega⟩
        rw [hvn,Int.toNat_natCast] at hgo
        have hvl:vn < b'.length:=by omega
        have hvl2:vn < b.length:=by omega
        obtain ⟨x,hx,hgo⟩:=Option.bind_eq_some_iff.1 hgo
        have hcall:=spec_l1Part.calls k A0 c0 s A3 c3 t (j:Int) x wr (hI _ _ HS.out) hs2 (hI _ _ HT.out) ht2 hx
        have hbc:=Bx.cell BX.out
        have HGO:=Aside0.mk hgo
        clear hgo hR hbx hB hK hI
        go_wp2_with (go_at_call 70;refine hcall.mono ?_)
        first|rintro e W1 v rfl hr hd|rintro e W1 ⟨v,rfl,hr,hd⟩
        obtain ⟨AX,cX,rfl⟩:=Kd.R_slice hr
        have hX:=(Kd.R_reads' hr).2.2
        have hXc:=(Kd.R_reads' hr).2.1
        clear hr hcall
        have HR:=Aside0.mk (HR.out.below hd)
        have BX:=Aside0.mk (BX.out.below hd)
        have HB:=Aside0.mk (below_step HB.out hd)
        have HK:=Aside0.mk (Kept.then_ HK.out (Kept.of_below hd (fun k_=>k_ = g)) (fun k_ h_=>.inl h_))
        have HI:=Aside0.mk (HI.out.below hd)
        clear hd hbc
        have hgo:=HGO.out
        by_cases gx:j + x.length ≤ 1000000
        rotate_left
        · rw [if_neg gx] at hgo
          cases hgo
        rw [if_pos gx] at hgo
        obtain ⟨AO,cO,hO,hOc,hOr⟩:=HR.out.rd vn hvl
        have hfz:=HR.out.frozen vn
        have HX:=Aside0.mk hX
        have HO:=Aside0.mk hOr
        have hset:=Aside0.mk (HR.out.set vn hvl hX hXc)
        have bset:Aside0 (Bx (W1.setCell ⟨g,vn,none⟩ (.slice AX x.length cX)) w.heap.size (.slice A0 s.length c0) 30):=⟨Bx.set (u0:=undef) BX.out HGB.out⟩
        have kset:Aside0 (Kept w (W1.setCell ⟨g,vn,none⟩ (.slice AX x.length cX)) (fun k_=>k_ = g)):=⟨Kept.setCell HK.out (.inl rfl) _⟩
        have iset:=Aside0.mk (HI.out.set hO (.slice AX x.length cX))
        have Bset:Aside0 (Below w0.heap.size w0 (W1.setCell ⟨g,vn,none⟩ (.slice AX x.length cX))):=⟨below_set HB.out HG.out⟩
        have hvn':=hvn
        have hlen2:(b'.set vn x).length = b.length:=by rw [List.length_set];exact hbl
        have hjx:∃ j2:Nat,j + x.length = j2:=⟨_,rfl⟩
        obtain ⟨j2,hj2⟩:=hjx
        rw [hj2] at hgo
        by_cases go:0 < (b'.getD vn []).length
        · rw [if_pos go] at hgo
          obtain ⟨q,hq,hgo⟩:=Option.bind_eq_some_iff.1 hgo
          have hcall:=spec_l1Same.calls k AO cO (b'.getD vn []) AX cX x q W1 hOr hOc hX hXc hq
          have HGO:=Aside0.mk hgo
          clear hX hOr hgo
          generalize b'.getD vn [] = old at hO go hcall hOc HO
          go_wp2_with (go_at_call 127;refine hcall.mono ?_)
          first|rintro e W2 rfl hd|rintro e W2 ⟨rfl,hd⟩
          have hd:=hd.below
          have hglt2:=HR.out.lt
          replace hO:=(Below.cell hd hglt2).trans hO
          have HR:=Aside0.mk (HR.out.below hd)
          have BX:=Aside0.mk (BX.out.below hd)
          have HB:=Aside0.mk (below_step HB.out hd)
          have HK:=Aside0.mk (Kept.then_ HK.out (Kept.of_below hd (fun k_=>k_ = g)) (fun k_ h_=>.inl h_))
          have HI:=Aside0.mk (HI.out.below hd)
          have hX2:=Kd.C_below HX.out hd
          replace hfz:=HR.out.frozen vn
          clear hd hcall hset bset kset iset Bset
          have hset:=Aside0.mk (HR.out.set vn hvl hX2 hXc)
          have bset:Aside0 (Bx (W2.setCell ⟨g,vn,none⟩ (.slice AX x.length cX)) w.heap.size (.slice A0 s.length c0) 30):=⟨Bx.set (u0:=undef) BX.out HGB.out⟩
          have kset:Aside0 (Kept w (W2.setCell ⟨g,vn,none⟩ (.slice AX x.length cX)) (fun k_=>k_ = g)):=⟨Kept.setCell HK.out (.inl rfl) _⟩
          have iset:=Aside0.mk (HI.out.set hO (.slice AX x.length cX))
          have Bset:Aside0 (Below w0.heap.size w0 (W2.setCell ⟨g,vn,none⟩ (.slice AX x.length cX))):=⟨below_set HB.out HG.out⟩
          clear hX2
          have hgo:=HGO.out
          cases q with
          | true =>
            rw [if_pos rfl] at hgo
            have HGO:=Aside0.mk hgo
            clear hgo
            go_wp2
            go_roundw
            case rel=>exact ⟨i + 1,j2,b'.set vn x,by omega,by omega,rfl,by congr 1;omega,hlen2,HGO.out,hset.out,bset.out,Bset.out,kset.out,iset.out⟩
            case measure=>simp [intOf];omega
          | false =>
            rw [if_neg (by decide)] at hgo
            obtain rfl:=Option.some.inj hgo
            clear hgo
            go_wp2
            go_ret2
            exact ⟨⟨_,rfl⟩,⟨HB.out,HI.out,HK.out⟩⟩
        · rw [if_neg go] at hgo
          have HGO:=Aside0.mk hgo
          clear hX hOr hgo
          generalize b'.getD vn [] = old at hO go hOc HO
          go_wp2
          go_roundw
          case rel=>exact ⟨i + 1,j2,b'.set vn x,by omega,by omega,rfl,by congr 1;omega,hlen2,HGO.out,hset.out,bset.out,Bset.out,kset.out,iset.out⟩
          case measure=>simp [intOf];omega
    · obtain rfl:i = p.length:=by omega
      rw [List.drop_length] at hgo
      simp only [spec_l2Match.go,Option.some.injEq] at hgo
      subst hgo
      clear hR hbx hB hK
      go_wp2
      go_ret2
      refine ⟨_,rfl,⟨HB.out,HI.out,HK.out,?_⟩⟩
      first|exact fun _=>⟨rfl,hbl,HR.out⟩|exact ⟨rfl,hbl,HR.out⟩|exact ⟨rfl,HR.out⟩
def spec_l7By.has (k:Nat) (part:List Int):List Int → Option Bool
  | []=>some true
  | v :: t=>if -1000000 ≤ v ∧ v ≤ 1000000 then (spec_l1Has.f k part (-1 - v)).bind fun h=>if h = true then spec_l7By.has k part t else some false else none
def spec_l7By.f (k:Nat) (l0_0 l1 l2 l3:List Int):Option (List Int × Bool) :=
  if l1.length ≤ 1000000 ∧ l2.length ≤ 1000000 then (spec_l2Match.go k l0_0 l1 l2 (List.replicate 12 []) 0).bind fun m=>if m.2 = true then (spec_l2Apply.f k m.1 l3).bind fun out=>(spec_l1Vars.f k out).bind fun vs=>(spec_l7By.has k l1 vs).bind fun q=>if q = true then (spec_l3Greater.f k l1 out).bind fun g=>some (out,g) else some ([],false) else some ([],false) else none
set_option maxHeartbeats 8000000 in
set_option maxRecDepth 1000000 in
theorem spec_l7By.calls (k:Nat) (A0_0:Option Addr) (c0_0:Nat) (l0_0:List Int) (A1:Option Addr) (c1:Nat) (l1:List Int) (A2:Option Addr) (c2:Nat) (l2:List Int) (A3:Option Addr) (c3:Nat) (l3:List Int) (r1:List Int) (r2:Bool) (w:World) (hr0_0:Kd.C (Kd.int .i64) w A0_0 l0_0.length l0_0) (hc0_0:l0_0.length ≤ c0_0) (hr1:Kd.C (Kd.int .i64) w A1 l1.length l1) (hc1:l1.length ≤ c1) (hr2:Kd.C (Kd.int .i64) w A2 l2.length l2) (hc2:l2.length ≤ c2) (hr3:Kd.C (Kd.int .i64) w A3 l3.length l3) (hc3:l3.length ≤ c3) (h:spec_l7By.f k l0_0 l1 l2 l3 = some (r1,r2)) :
    Calls Try.prog 72 #[.agg #[.slice A0_0 l0_0.length c0_0],.slice A1 l1.length c1,.slice A2 l2.length c2,.slice A3 l3.length c3] w fun e w'=>∃ v0_:Value,e = .returned (.tuple #[v0_,.bool r2]) ∧ Kd.R (Kd.int .i64) 3 w' w.heap.size (fun _=>True) v0_ r1 ∧ Below w.heap.size w w':=by
  unfold spec_l7By.f at h
  split at h
  rotate_left
  · cases h
  rename_i hln
  obtain ⟨⟨b',okb⟩,hgo,h⟩:=Option.bind_eq_some_iff.1 h
  have H0:=Aside0.mk hr0_0
  have H1:=Aside0.mk hr1
  have H2:=Aside0.mk hr2
  have H3:=Aside0.mk hr3
  have HH:=Aside0.mk h
  have HGO:=Aside0.mk hgo
  clear hr0_0 hr1 hr2 hr3 h hgo
  have bx:Aside0 (Bx (w.alloc (.cells #[.slice A0_0 l0_0.length c0_0] 30)) w.heap.size (.slice A0_0 l0_0.length c0_0) 30):=⟨heap_alloc_new w _⟩
  have HB:Aside0 (Below w.heap.size w (w.alloc (.cells #[.slice A0_0 l0_0.length c0_0] 30))):=⟨Below.alloc (Below.refl _ _) (Nat.le_refl _) _⟩
  go_enter Try.func72,Try.ntmps72
  go_upto_region 1 with fail
  generalize w.alloc (.cells #[.slice A0_0 l0_0.length c0_0] 30) = W0 at bx HB ⊢
  have hbc:=Bx.cell bx.out
  go_wp2
  refine start_ (n:=10) (S:=fun w'=>w'.cell? ⟨w.heap.size,0,none⟩ = some (.slice A0_0 l0_0.length c0_0)) (ds:=[]) #[false,false,false,false,false,false,false,false,false,false] (by kernel_rfl) rfl rfl hbc (fun hHeld=>?_)
  have bx:=Aside0.mk (show Bx W0.drew w.heap.size (.slice A0_0 l0_0.length c0_0) 30 from bx.out)
  have HB:=Aside0.mk (below_drew1 HB.out)
  clear hbc
  generalize W0.drew = W1 at bx HB hHeld ⊢
  refine take_ (i:=0) (N:=some 16) (v:=?_) (a':=?_) #[true,false,false,false,false,false,false,false,false,false] rfl rfl (by kernel_rfl) (fun _ _ _ h=>h) (Or.inl ⟨by rfl,?_⟩) hHeld ?_ ?_
  rotate_left
  · intro w' s0
    go_simp
    with_reducible rfl
  rotate_left
  · simp only [Act.put,List.setIfInBounds_toArray,List.set_cons_zero,List.set_cons_succ,i64_w,i32_w]
    rfl
  refine pure_ (i:=2) (N:=some 18) (v:=?_) (a':=?_) #[true,false,true,false,false,false,false,false,false,false] rfl rfl (by kernel_rfl) (fun _ _ _ h=>h) (Or.inl ⟨by rfl,?_⟩) ?_ ?_
  rotate_left
  · intro w'
    go_simp
    with_reducible rfl
  rotate_left
  · simp only [Act.put,List.setIfInBounds_toArray,List.set_cons_zero,List.set_cons_succ,i64_w,i32_w]
    rfl
  refine pure_ (i:=3) (N:=some 19) (v:=?_) (a':=?_) #[true,false,true,true,false,false,false,false,false,false] rfl rfl (by kernel_rfl) (fun _ _ _ h=>h) (Or.inl ⟨by rfl,?_⟩) ?_ ?_
  rotate_left
  · intro w'
    go_simp
    with_reducible rfl
  rotate_left
  · simp only [Act.put,List.setIfInBounds_toArray,List.set_cons_zero,List.set_cons_succ,i64_w,i32_w]
    rfl
  refine one_ (i:=1) (N:=some 17) #[true,true,true,true,false,false,false,false,false,false] rfl rfl (by kernel_rfl) (by decide) (fun K hK=>?_)
  refine value_ (by rfl) rfl (v:=.slice (some ⟨W1.heap.size,0,none⟩) 12 12) (w1:=W1.alloc (.cells mk12 22)) ?_ ?_
  · have h:=run_mk12 W1
    simp only [execOp,Act.eval]
    go_simp
  have HR:=Aside0.mk (rows2_new W1)
  have ha:Below W1.heap.size W1 (W1.alloc (.cells mk12 22)):=Below.alloc (Below.refl _ _) (Nat.le_refl _) _
  have hg:Aside0 (w.heap.size < W1.heap.size):=⟨bx.out.lt⟩
  have bx:=Aside0.mk (bx.out.below ha)
  have HB:=Aside0.mk (below_step HB.out ha)
  clear ha hHeld
  generalize W1.alloc (.cells mk12 22) = W2 at bx HB HR hK ⊢
  generalize W1.heap.size = g at hg HR hK ⊢
  refine hK.out _ _ bx.out.cell (fun hHeld=>?_)
  clear hK K
  refine norm_ (a':=?_) ?_ ?_
  rotate_left
  · show Act.put _ (some 17) _ = _
    simp only [Act.put,List.setIfInBounds_toArray,List.set_cons_zero,List.set_cons_succ,i64_w,i32_w]
    rfl
  refine one_ (i:=4) (N:=some 20) #[true,true,true,true,true,false,false,false,false,false] rfl rfl (by kernel_rfl) (by decide) (fun K hK=>?_)
  refine goes_ Try.func103 (by kernel_rfl) rfl #[.agg #[.slice A0_0 l0_0.length c0_0],.slice (some ⟨g,0,none⟩) 12 12,.slice A2 l2.length c2,.slice A1 l1.length c1] (by rfl) rfl rfl (by (try simp only [List.map_toArray,List.map_cons,List.map_nil]);first|done|rfl) ?_
  have hgle:w.heap.size ≤ g:=Nat.le_of_lt hg.out
  refine (spec_l2Match.walk k A0_0 c0_0 l0_0 g 12 (List.replicate 12 []) A2 c2 l2 A1 c1 l1 (b',okb) w W2 HB.out hgle (Kd.C_below H0.out HB.out) hc0_0 HR.out (Kd.C_below H2.out HB.out) hc2 (Kd.C_below H1.out HB.out) hc1 hln.1 hln.2 HGO.out).mono ?_
  rintro e W3 ⟨v,rfl,hf⟩
  refine ⟨_,rfl,?_⟩
  have bx:=Aside0.mk (bx.out.step hf.out.2.2.1 (by have:=hg.out;omega))
  refine hK.out _ _ bx.out.cell (fun hHeld=>?_)
  clear hK K hHeld
  refine norm_ (a':=?_) ?_ ?_
  rotate_left
  · show Act.put _ (some 20) _ = _
    simp only [Act.put,List.setIfInBounds_toArray,List.set_cons_zero,List.set_cons_succ,i64_w,i32_w]
    rfl
  refine pure_ (i:=5) (N:=some 15) (v:=?_) (a':=?_) #[true,true,true,true,true,true,false,false,false,false] rfl rfl (by kernel_rfl) (fun _ _ _ h=>h) (Or.inl ⟨by rfl,?_⟩) ?_ ?_
  rotate_left
  · intro w'
    go_simp
    with_reducible rfl
  rotate_left
  · simp only [Act.put,List.setIfInBounds_toArray,List.set_cons_zero,List.set_cons_succ,i64_w,i32_w]
    rfl
  refine pure_ (i:=6) (N:=some 21) (v:=?_) (a':=?_) #[true,true,true,true,true,true,true,false,false,false] rfl rfl (by kernel_rfl) (fun _ _ _ h=>h) (Or.inl ⟨by rfl,?_⟩) ?_ ?_
  rotate_left
  · intro w'
    go_simp
    with_reducible rfl
  rotate_left
  · simp only [Act.put,List.setIfInBounds_toArray,List.set_cons_zero,List.set_cons_succ,i64_w,i32_w]
    rfl
  refine pure_ (i:=7) (N:=some 22) (v:=?_) (a':=?_) #[true,true,true,true,true,true,true,true,false,false] rfl rfl (by kernel_rfl) (fun _ _ _ h=>h) (Or.inl ⟨by rfl,?_⟩) ?_ ?_
  rotate_left
  · intro w'
    go_simp
    with_reducible rfl
  rotate_left
  · simp only [Act.put,List.setIfInBounds_toArray,List.set_cons_zero,List.set_cons_succ,i64_w,i32_w]
    rfl
  refine pure_ (i:=8) (N:=some 10) (v:=?_) (a':=?_) #[true,true,true,true,true,true,true,true,true,false] rfl rfl (by kernel_rfl) (fun _ _ _ h=>h) (Or.inl ⟨by rfl,?_⟩) ?_ ?_
  rotate_left
  · intro w'
    go_simp
    with_reducible rfl
  rotate_left
  · simp only [Act.put,List.setIfInBounds_toArray,List.set_cons_zero,List.set_cons_succ,i64_w,i32_w]
    rfl
  refine pure_ (i:=9) (N:=some 11) (v:=?_) (a':=?_) #[true,true,true,true,true,true,true,true,true,true] rfl rfl (by kernel_rfl) (fun _ _ _ h=>h) (Or.inl ⟨by rfl,?_⟩) ?_ ?_
  rotate_left
  · intro w'
    go_simp
    with_reducible rfl
  rotate_left
  · simp only [Act.put,List.setIfInBounds_toArray,List.set_cons_zero,List.set_cons_succ,i64_w,i32_w]
    rfl
  refine done_ (by kernel_rfl) ?_
  have G1:=Aside0.mk (hf.out.2.1 _ _ (Kd.C_below H1.out HB.out))
  have G3:=Aside0.mk (hf.out.2.1 _ _ (Kd.C_below H3.out HB.out))
  have HB:=Aside0.mk hf.out.1
  have HI:=Aside0.mk hf.out.2.1
  have HF:=Aside0.mk hf.out.2.2.2
  clear hf HR HGO
  have h:=HH.out
  cases okb with
  | false =>
    simp only [Bool.false_eq_true,if_false,Option.some.injEq,Prod.mk.injEq] at h
    obtain ⟨rfl,rfl⟩:=h
    go_wp2
    go_ret2
    exact ⟨_,rfl,Kd.R_nil _ _ _ _ _,HB.out⟩
  | true =>
    obtain ⟨rfl,hbl,HR⟩:=HF.out rfl
    rw [if_pos rfl] at h
    obtain ⟨out,hout,h⟩:=Option.bind_eq_some_iff.1 h
    obtain ⟨vs,hvs,h⟩:=Option.bind_eq_some_iff.1 h
    obtain ⟨q,hq,h⟩:=Option.bind_eq_some_iff.1 h
    have hb12:b'.length = 12:=by simpa using hbl
    have hcall:=spec_l2Apply.calls k (some ⟨g,0,none⟩) 12 b' A3 c3 l3 out W3 (ci_kd HR (by omega)) (by omega) G3.out hc3 hout
    rw [hb12] at hcall
    have HVS:=Aside0.mk hvs
    have HQ:=Aside0.mk hq
    have HL:=Aside0.mk h
    have HR3:=Aside0.mk HR
    clear hbl HR hout hvs hq h HF
    go_wp2_with (go_at_call 104;refine hcall.mono ?_)
    first|rintro e W4 v rfl hr hd|rintro e W4 ⟨v,rfl,hr,hd⟩
    obtain ⟨AX,cX,rfl⟩:=Kd.R_slice hr
    have hX:=Aside0.mk (Kd.R_reads' hr).2.2
    have hXc:=(Kd.R_reads' hr).2.1
    have HO:=Aside0.mk (Kd.R_lower (base':=w.heap.size) hr HB.out.size)
    have G1:=Aside0.mk (Kd.C_below G1.out hd)
    have HB:=Aside0.mk (below_step HB.out hd)
    clear hr hd hcall
    have hcall:=spec_l1Vars.calls k AX cX out vs W4 hX.out hXc HVS.out
    go_wp2_with (go_at_call 105;refine hcall.mono ?_)
    first|rintro e W5 v rfl hr hd|rintro e W5 ⟨v,rfl,hr,hd⟩
    obtain ⟨AV,cV,rfl⟩:=Kd.R_slice hr
    have hV:=Aside0.mk (Kd.R_reads' hr).2.2
    have G1:=Aside0.mk (Kd.C_below G1.out hd)
    have hX:=Aside0.mk (Kd.C_below hX.out hd)
    have HO:=Aside0.mk (Kd.R_below HO.out hd)
    have HB:=Aside0.mk (below_step HB.out hd)
    have hvl:vs.length ≤ 9223372036854775807:=hV.out.2.1
    clear hr hd hcall
    go_wp2
    go_loopw [31] (fun v31 wr=>∃ i:Nat,i ≤ vs.length ∧ v31 = .int .i64 i ∧ Hid (spec_l7By.has k l1 (vs.drop i) = some q) ∧ Hid (CI wr AV vs) ∧ Hid (CI wr A1 l1) ∧ Hid (CI wr AX out) ∧ Hid (Kd.R (Kd.int .i64) 3 wr w.heap.size (fun _=>True) (.slice AX out.length cX) out) ∧ Hid (Below w.heap.size w wr)) (fun v31 _=>vs.length - (intOf v31).toNat)
    case atStart=>exact ⟨0,Nat.zero_le _,rfl,HQ.out,hV.out,G1.out,hX.out,HO.out,HB.out⟩
    case round =>
      clear HQ hV G1 hX HO HB
      obtain ⟨i,hi,rfl,hq,hV,hG,hX,hO,hB⟩:=hrel
      unfold Hid at hq hV hG hX hO hB
      by_cases hp:i < vs.length
      · rw [List.drop_eq_getElem_cons hp] at hq
        obtain ⟨av,eav,hvc⟩:=ci_elem hV i hp
        have hrd:rd vs (i:Int) = vs[i]:=by unfold rd;simp [List.getD_eq_getElem?_getD,hp]
        rw [hrd] at hvc
        subst eav
        generalize vs[i] = n at hq hvc hrd
        clear hrd
        simp only [spec_l7By.has] at hq
        by_cases gn:-1000000 ≤ n ∧ n ≤ 1000000
        rotate_left
        · rw [if_neg gn] at hq
          cases hq
        rw [if_pos gn] at hq
        obtain ⟨hh,h1,hq⟩:=Option.bind_eq_some_iff.1 hq
        have hcall:=spec_l1Has.calls k A1 c1 l1 (-1 - n) hh wr hG hc1 h1
        have HV:=Aside0.mk hV
        have HX:=Aside0.mk hX
        have HG:=Aside0.mk hG
        have HO:=Aside0.mk hO
        have HB:=Aside0.mk hB
        have HQ:=Aside0.mk hq
        clear hV hX hG hO hB hq h1
        go_wp2_with (go_at_call 106;refine hcall.mono ?_)
        first|rintro e W6 rfl hd|rintro e W6 ⟨rfl,hd⟩
        have hd:=hd.below
        have HV:=Aside0.mk (Kd.C_below HV.out hd)
        have HX:=Aside0.mk (Kd.C_below HX.out hd)
        have HG:=Aside0.mk (Kd.C_below HG.out hd)
        have HO:=Aside0.mk (Kd.R_below HO.out hd)
        have HB:=Aside0.mk (below_step HB.out hd)
        clear hd hcall
        have hq:=HQ.out
        cases hh with
        | true =>
          rw [if_pos rfl] at hq
          have HQ:=Aside0.mk hq
          clear hq
          go_wp2
          go_roundw
          case rel=>exact ⟨i + 1,by omega,rfl,HQ.out,HV.out,HG.out,HX.out,HO.out,HB.out⟩
          case measure=>simp [intOf];omega
        | false =>
          rw [if_neg (by decide)] at hq
          obtain rfl:=Option.some.inj hq
          have h:=HL.out
          simp only [Bool.false_eq_true,if_false,Option.some.injEq,Prod.mk.injEq] at h
          obtain ⟨rfl,rfl⟩:=h
          clear hq
          go_wp2
          go_ret2
          exact ⟨_,rfl,Kd.R_nil _ _ _ _ _,HB.out⟩
      · obtain rfl:i = vs.length:=by omega
        rw [List.drop_length] at hq
        simp only [spec_l7By.has,Option.some.injEq] at hq
        subst hq
        have h:=HL.out
        rw [if_pos rfl] at h
        obtain ⟨gr,hgr,h⟩:=Option.bind_eq_some_iff.1 h
        obtain ⟨rfl,rfl⟩:=Prod.mk.inj (Option.some.inj h)
        have hcall:=spec_l3Greater.calls k A1 c1 l1 AX cX out gr wr hG hc1 hX hXc hgr
        have HO:=Aside0.mk hO
        have HB:=Aside0.mk hB
        clear hV hX hG hO hB hgr h
        go_wp2_with (go_at_call 107;refine hcall.mono ?_)
        first|rintro e W6 rfl hd|rintro e W6 ⟨rfl,hd⟩
        have HO:=Aside0.mk (Kd.R_below HO.out hd)
        have HB:=Aside0.mk (below_step HB.out hd)
        clear hd hcall
        go_wp2
        go_ret2
        exact ⟨_,rfl,HO.out,HB.out⟩
theorem spec_l2Match.mono_go (s t p:List Int):∀ (b:List (List Int)) (j k:Nat),LeO (spec_l2Match.go k s t p b j) (spec_l2Match.go (k + 1) s t p b j):=by
  induction p with
  | nil=>intro b j k;exact LeO.refl _
  | cons n p ih =>
    intro b j k
    simp only [spec_l2Match.go]
    have m0:=@ih
    have m1:=@spec_l1Part.mono
    have m2:=@spec_l1Same.mono
    exact mO
theorem spec_l7By.mono_has (part vs:List Int):∀ k,LeO (spec_l7By.has k part vs) (spec_l7By.has (k + 1) part vs):=by
  induction vs with
  | nil=>intro k;exact LeO.refl _
  | cons v t ih =>
    intro k
    simp only [spec_l7By.has]
    have m0:=@ih
    have m1:=@spec_l1Has.mono
    exact mO
theorem spec_l7By.mono (a0 a1 a2 a3:List Int) (k:Nat):LeO (spec_l7By.f k a0 a1 a2 a3) (spec_l7By.f (k + 1) a0 a1 a2 a3):=by
  unfold spec_l7By.f
  have m0:=@spec_l2Match.mono_go
  have m1:=@spec_l7By.mono_has
  have m2:=@spec_l2Apply.mono
  have m3:=@spec_l1Vars.mono
  have m4:=@spec_l3Greater.mono
  exact mO
set_option maxHeartbeats 8000000 in
set_option maxRecDepth 1000000 in
theorem spec_l6Sides.walk (p:Bool) (A1:Option Addr) (n1 c1:Nat) (A2:Option Addr) (n2 c2:Nat) (n:Int) (w:World) :
    Calls Try.prog 71 #[.agg #[.bool p,.slice A1 n1 c1,.slice A2 n2 c2],.int .i64 n] w fun e w'=>e = .returned (if n = 0 then .tuple #[.slice A1 n1 c1,.slice A2 n2 c2] else .tuple #[.slice A2 n2 c2,.slice A1 n1 c1]) ∧ Aside0 (Below w.heap.size w w'):=by
  have hb:=heap_alloc_new w (.cells #[.bool p,.slice A1 n1 c1,.slice A2 n2 c2] 65)
  have HB:Aside0 (Below w.heap.size w (w.alloc (.cells #[.bool p,.slice A1 n1 c1,.slice A2 n2 c2] 65))):=⟨Below.alloc (Below.refl _ _) (Nat.le_refl _) _⟩
  go_enter Try.func71,Try.ntmps71
  go_upto_region 1 with fail
  generalize w.alloc (.cells #[.bool p,.slice A1 n1 c1,.slice A2 n2 c2] 65) = W0 at hb HB ⊢
  generalize w.heap.size = g at hb ⊢
  have h1:W0.cell? ⟨g,1,none⟩ = some (.slice A1 n1 c1):=(blk_cell hb 1).trans rfl
  have h2:W0.cell? ⟨g,2,none⟩ = some (.slice A2 n2 c2):=(blk_cell hb 2).trans rfl
  clear hb
  by_cases hn:n = 0
  · subst hn
    go_upto_region 2 with fail
    go_region
    go_wp2
    go_ret2
    exact ⟨rfl,⟨below_drew1 HB.out⟩⟩
  · go_upto_region 3 with fail
    go_region
    go_wp2
    go_ret2
    exact ⟨by first|rfl|(rw [if_neg hn];rfl),⟨below_drew1 HB.out⟩⟩
def spec_l7Step.sideG (k:Nat) (l0 part:List Int) (x:S65):Nat → Nat → Option (Option (List Int))
  | 0,_=>some none
  | m + 1,n=>(spec_l7By.f k l0 part (if n = 0 then x.f1 else x.f2) (if n = 0 then x.f2 else x.f1)).bind fun y=>if y.2 = true then some (some y.1) else spec_l7Step.sideG k l0 part x m (n + 1)
def spec_l7Step.sides (k:Nat) (l0 part:List Int) (x:S65):Option (Option (List Int)):=spec_l7Step.sideG k l0 part x 2 0
def spec_l7Step.units (k:Nat) (l0 part:List Int):List S65 → Nat → Option (Option (List Int × Nat))
  | [],_=>some none
  | x :: t,u=>(spec_l7Step.sides k l0 part x).bind fun o=>match o with
    | some y=>some (some (y,u))
    | none=>spec_l7Step.units k l0 part t (u + 1)
def spec_l7Step.at (k:Nat) (l0 t:List Int) (l2:List S65):Nat → Option (List Int × Int × Int × Bool)
  | 0=>some ([],0,0,false)
  | a + 1=>(spec_l1Part.f k l0 t (a:Int)).bind fun part=>(spec_l7Step.units k l0 part l2 0).bind fun o=>match o with
    | some y=>(spec_l1Replace.f k l0 t (a:Int) y.1).bind fun r=>some (r,(a:Int),(y.2:Int),true)
    | none=>spec_l7Step.at k l0 t l2 a
def spec_l7Step.f (k:Nat) (l0_0 l1:List Int) (l2:List (S65)):Option (List Int × Int × Int × Bool):=if l1.length ≤ 1000000 ∧ l2.length ≤ 1000000 then spec_l7Step.at k l0_0 l1 l2 l1.length else none
set_option maxHeartbeats 16000000 in
set_option maxRecDepth 1000000 in
theorem spec_l7Step.calls (k:Nat) (A0_0:Option Addr) (c0_0:Nat) (l0_0:List Int) (A1:Option Addr) (c1:Nat) (l1:List Int) (A2:Option Addr) (c2:Nat) (l2:List (S65)) (r1:List Int) (r2:Int) (r3:Int) (r4:Bool) (w:World) (hr0_0:Kd.C (Kd.int .i64) w A0_0 l0_0.length l0_0) (hc0_0:l0_0.length ≤ c0_0) (hr1:Kd.C (Kd.int .i64) w A1 l1.length l1) (hc1:l1.length ≤ c1) (hr2:Kd.C k65 w A2 l2.length l2) (hc2:l2.length ≤ c2) (h:spec_l7Step.f k l0_0 l1 l2 = some (r1,r2,r3,r4)) :
    Calls Try.prog 42 #[.agg #[.slice A0_0 l0_0.length c0_0],.slice A1 l1.length c1,.slice A2 l2.length c2] w fun e w'=>∃ v0_:Value,e = .returned (.tuple #[v0_,.int .i64 r2,.int .i64 r3,.bool r4]) ∧ Kd.R (Kd.int .i64) 3 w' w.heap.size (fun _=>True) v0_ r1 ∧ Below w.heap.size w w':=by
  unfold spec_l7Step.f at h
  split at h
  rotate_left
  · cases h
  rename_i hln
  have H0:=Aside0.mk hr0_0
  have H1:=Aside0.mk hr1
  have H2:=Aside0.mk hr2
  have HH:=Aside0.mk h
  clear hr0_0 hr1 hr2 h
  have bx:Aside0 (Bx (w.alloc (.cells #[.slice A0_0 l0_0.length c0_0] 30)) w.heap.size (.slice A0_0 l0_0.length c0_0) 30):=⟨heap_alloc_new w _⟩
  have HB:Aside0 (Below w.heap.size w (w.alloc (.cells #[.slice A0_0 l0_0.length c0_0] 30))):=⟨Below.alloc (Below.refl _ _) (Nat.le_refl _) _⟩
  go_enter Try.func42,Try.ntmps42
  go_upto_region 1 with fail
  generalize w.alloc (.cells #[.slice A0_0 l0_0.length c0_0] 30) = W0 at bx HB ⊢
  go_wp2
  go_loopw [10] (fun v10 wr=>∃ a:Nat,a ≤ l1.length ∧ v10 = .int .i64 ((a:Int) - 1) ∧ Hid (spec_l7Step.at k l0_0 l1 l2 a = some (r1,r2,r3,r4)) ∧ Hid (Bx wr w.heap.size (.slice A0_0 l0_0.length c0_0) 30) ∧ Hid (Below w.heap.size w wr)) (fun v10 _=>(intOf v10 + 1).toNat)
  case atStart=>exact ⟨l1.length,Nat.le_refl _,by rfl,HH.out,bx.out,HB.out⟩
  case round =>
    clear HH bx HB
    obtain ⟨a,ha,rfl,hgo,hbx,hB⟩:=hrel
    unfold Hid at hgo hbx hB
    cases a with
    | zero =>
      simp only [spec_l7Step.at,Option.some.injEq,Prod.mk.injEq] at hgo
      obtain ⟨rfl,rfl,rfl,rfl⟩:=hgo
      have HB:=Aside0.mk hB
      clear hbx hB
      go_wp2
      ((try simp only [Exit.inBlock,Exit.then]);refine bodyPost_ret (results_tmp4 rfl _ _ _) rfl ?_)
      exact ⟨_,rfl,Kd.R_nil _ _ _ _ _,HB.out⟩
    | succ a =>
      simp only [spec_l7Step.at] at hgo
      obtain ⟨part,hpart,hgo⟩:=Option.bind_eq_some_iff.1 hgo
      obtain ⟨o,ho,hgo⟩:=Option.bind_eq_some_iff.1 hgo
      have hcall:=spec_l1Part.calls k A0_0 c0_0 l0_0 A1 c1 l1 (a:Int) part wr (Kd.C_below H0.out hB) hc0_0 (Kd.C_below H1.out hB) hc1 hpart
      have e1:((a + 1:Nat):Int) - 1 = (a:Int):=by omega
      rw [e1]
      have hbc:=Bx.cell hbx
      have BX:=Aside0.mk hbx
      have HB:=Aside0.mk hB
      have HO:=Aside0.mk ho
      have HGO:=Aside0.mk hgo
      clear hbx hB hpart ho hgo
      go_wp2_with (go_at_call 70;refine hcall.mono ?_)
      first|rintro e W1 v rfl hr hd|rintro e W1 ⟨v,rfl,hr,hd⟩
      obtain ⟨AP,cP,rfl⟩:=Kd.R_slice hr
      have HP:=Aside0.mk (Kd.R_reads' hr).2.2
      have hPc:=(Kd.R_reads' hr).2.1
      have BX:=Aside0.mk (BX.out.below hd)
      have HB:=Aside0.mk (below_step HB.out hd)
      have hl2:l2.length ≤ 1000000:=hln.2
      clear hr hd hbc hcall
      go_wp2
      go_loopw [32] (fun v32 wr=>∃ u:Nat,u ≤ l2.length ∧ v32 = .int .i64 u ∧ Hid (spec_l7Step.units k l0_0 part (l2.drop u) u = some o) ∧ Hid (CI wr AP part) ∧ Hid (Bx wr w.heap.size (.slice A0_0 l0_0.length c0_0) 30) ∧ Hid (Below w.heap.size w wr)) (fun v32 _=>l2.length - (intOf v32).toNat)
      case atStart=>exact ⟨0,Nat.zero_le _,rfl,HO.out,HP.out,BX.out,HB.out⟩
      case round =>
        clear HO HP BX HB
        obtain ⟨u,hu,rfl,hun,hP,hbx,hB⟩:=hrel
        unfold Hid at hun hP hbx hB
        by_cases hp:u < l2.length
        · rw [List.drop_eq_getElem_cons hp] at hun
          simp only [spec_l7Step.units] at hun
          obtain ⟨ad,B1,d1,B2,d2,ead,k0,k1,k2,l1_,i1,l2_,i2⟩:=at_T65 (Kd.C_below H2.out hB) (u:Int) (by omega) (by omega)
          have hrd:rd_T65 l2 (u:Int) = l2[u]:=by unfold rd_T65;simp [List.getD_eq_getElem?_getD,hp]
          rw [hrd] at k0 k1 k2 l1_ i1 l2_ i2
          rw [Int.toNat_natCast] at k0 k1 k2
          subst ead
          generalize l2[u] = x at hun k0 k1 k2 l1_ i1 l2_ i2 hrd
          clear hrd
          obtain ⟨os,hs,hun⟩:=Option.bind_eq_some_iff.1 hun
          unfold spec_l7Step.sides at hs
          have HP:=Aside0.mk hP
          have BX:=Aside0.mk hbx
          have HB:=Aside0.mk hB
          have HUN:=Aside0.mk hun
          have HS:=Aside0.mk hs
          have I1:=Aside0.mk i1
          have I2:=Aside0.mk i2
          clear hP hbx hB hun hs i1 i2
          go_upto_region 8 with fail
          have ha:Below wr.heap.size wr (wr.alloc (.cells #[.bool x.f0,.slice B1 x.f1.length d1,.slice B2 x.f2.length d2] 65)):=Below.alloc (Below.refl _ _) (Nat.le_refl _) _
          have HU:=Aside0.mk (heap_alloc_new wr (.cells #[.bool x.f0,.slice B1 x.f1.length d1,.slice B2 x.f2.length d2] 65))
          have HP:=Aside0.mk (Kd.C_below HP.out ha)
          have BX:=Aside0.mk (BX.out.below ha)
          have J1:=Aside0.mk (Kd.C_below I1.out ha)
          have J2:=Aside0.mk (Kd.C_below I2.out ha)
          have HB:=Aside0.mk (below_step HB.out ha)
          clear ha k0 k1 k2 I1 I2
          generalize wr.alloc (.cells #[.bool x.f0,.slice B1 x.f1.length d1,.slice B2 x.f2.length d2] 65) = W2 at HU HP BX J1 J2 HB ⊢
          generalize wr.heap.size = gu at HU ⊢
          go_wp2
          go_loopw [14] (fun v14 wr=>∃ n m:Nat,n + m = 2 ∧ v14 = .int .i64 n ∧ Hid (spec_l7Step.sideG k l0_0 part x m n = some os) ∧ Hid (CI wr AP part) ∧ Hid (Bx wr w.heap.size (.slice A0_0 l0_0.length c0_0) 30) ∧ Hid (wr.heap[gu]? = some (.cells #[.bool x.f0,.slice B1 x.f1.length d1,.slice B2 x.f2.length d2] 65 (0,0))) ∧ Hid (CI wr B1 x.f1) ∧ Hid (CI wr B2 x.f2) ∧ Hid (Below w.heap.size w wr)) (fun v14 _=>2 - (intOf v14).toNat)
          case atStart=>exact ⟨0,2,rfl,rfl,HS.out,HP.out,BX.out,HU.out,J1.out,J2.out,HB.out⟩
          case round =>
            clear HS HP BX HU J1 J2 HB
            obtain ⟨n,m,hnm,rfl,hsg,hP,hbx,hU,j1,j2,hB⟩:=hrel
            unfold Hid at hsg hP hbx hU j1 j2 hB
            have HP:=Aside0.mk hP
            have BX:=Aside0.mk hbx
            have HU:=Aside0.mk hU
            have J1:=Aside0.mk j1
            have J2:=Aside0.mk j2
            have HB:=Aside0.mk hB
            have q0:wr.cell? ⟨gu,0,none⟩ = some (.bool x.f0):=(blk_cell hU 0).trans rfl
            have q1:wr.cell? ⟨gu,1,none⟩ = some (.slice B1 x.f1.length d1):=(blk_cell hU 1).trans rfl
            have q2:wr.cell? ⟨gu,2,none⟩ = some (.slice B2 x.f2.length d2):=(blk_cell hU 2).trans rfl
            clear j1 j2
            obtain ⟨rfl,rfl⟩|⟨rfl,rfl⟩|⟨rfl,rfl⟩:(n = 0 ∧ m = 2) ∨ (n = 1 ∧ m = 1) ∨ (n = 2 ∧ m = 0):=by omega
            · simp only [spec_l7Step.sideG] at hsg
              obtain ⟨y,hy,hsg⟩:=Option.bind_eq_some_iff.1 hsg
              have hcall:=spec_l6Sides.walk x.f0 B1 x.f1.length d1 B2 x.f2.length d2 0 wr
              have HSG:=Aside0.mk hsg
              have HY:=Aside0.mk hy
              clear hsg hy hP hbx hB hU
              go_wp2_with (go_at_call 71;refine hcall.mono ?_)
              first|rintro e W3 rfl hd|rintro e W3 ⟨rfl,hd⟩
              have hd:=hd.out
              have HU:=Aside0.mk ((hd.block gu (Array.getElem?_eq_some_iff.1 HU.out).1).trans HU.out)
              have HP:=Aside0.mk (Kd.C_below HP.out hd)
              have BX:=Aside0.mk (BX.out.below hd)
              have J1:=Aside0.mk (Kd.C_below J1.out hd)
              have J2:=Aside0.mk (Kd.C_below J2.out hd)
              have HB:=Aside0.mk (below_step HB.out hd)
              have hbc:=Bx.cell BX.out
              obtain ⟨yo,yb⟩:=y
              have hy:=HY.out
              have hcall:=spec_l7By.calls k A0_0 c0_0 l0_0 AP cP part B1 d1 x.f1 B2 d2 x.f2 yo yb W3 (Kd.C_below H0.out HB.out) hc0_0 HP.out hPc J1.out l1_ J2.out l2_ hy
              clear hd hy HY q0 q1 q2
              go_wp2_with (go_at_call 72;refine hcall.mono ?_)
              first|rintro e W4 v rfl hr hd|rintro e W4 ⟨v,rfl,hr,hd⟩
              obtain ⟨AY,cY,rfl⟩:=Kd.R_slice hr
              have HYY:=Aside0.mk (Kd.R_reads' hr).2.2
              have hYc:=(Kd.R_reads' hr).2.1
              have HU:=Aside0.mk ((hd.block gu (Array.getElem?_eq_some_iff.1 HU.out).1).trans HU.out)
              have HP:=Aside0.mk (Kd.C_below HP.out hd)
              have BX:=Aside0.mk (BX.out.below hd)
              have J1:=Aside0.mk (Kd.C_below J1.out hd)
              have J2:=Aside0.mk (Kd.C_below J2.out hd)
              have HB:=Aside0.mk (below_step HB.out hd)
              clear hr hd hcall hbc
              have hbc:=Bx.cell BX.out
              have hsg:=HSG.out
              cases yb with
              | true =>
                simp only [if_true,Option.some.injEq] at hsg
                subst hsg
                have hun:=HUN.out
                simp only [Option.some.injEq] at hun
                subst hun
                have hgo:=HGO.out
                simp only at hgo
                obtain ⟨rr,hrr,hgo⟩:=Option.bind_eq_some_iff.1 hgo
                simp only [Option.some.injEq,Prod.mk.injEq] at hgo
                obtain ⟨rfl,rfl,rfl,rfl⟩:=hgo
                have hcall:=spec_l1Replace.calls k A0_0 c0_0 l0_0 A1 c1 l1 (a:Int) AY cY yo rr W4 (Kd.C_below H0.out HB.out) hc0_0 (Kd.C_below H1.out HB.out) hc1 HYY.out hYc hrr
                clear hrr
                go_wp2_with (go_at_call 73;refine hcall.mono ?_)
                first|rintro e W5 v rfl hr hd|rintro e W5 ⟨v,rfl,hr,hd⟩
                have HOR:=Aside0.mk (Kd.R_mono (ok':=fun _=>True) (Kd.R_lower (base':=w.heap.size) hr HB.out.size) (fun _ _=>trivial))
                have HB:=Aside0.mk (below_step HB.out hd)
                clear hr hd hcall
                go_wp2
                ((try simp only [Exit.inBlock,Exit.then]);refine bodyPost_ret (results_tmp4 rfl _ _ _) rfl ?_)
                exact ⟨_,rfl,HOR.out,HB.out⟩
              | false =>
                simp only [Bool.false_eq_true,if_false] at hsg
                have HSG2:=Aside0.mk hsg
                clear hsg
                go_wp2
                go_roundw
                case rel=>exact ⟨1,1,by omega,rfl,HSG2.out,HP.out,BX.out,HU.out,J1.out,J2.out,HB.out⟩
                case measure=>simp [intOf]
            · simp only [spec_l7Step.sideG] at hsg
              obtain ⟨y,hy,hsg⟩:=Option.bind_eq_some_iff.1 hsg
              have hcall:=spec_l6Sides.walk x.f0 B1 x.f1.length d1 B2 x.f2.length d2 1 wr
              have HSG:=Aside0.mk hsg
              have HY:=Aside0.mk hy
              clear hsg hy hP hbx hB hU
              go_wp2_with (go_at_call 71;refine hcall.mono ?_)
              first|rintro e W3 rfl hd|rintro e W3 ⟨rfl,hd⟩
              have hd:=hd.out
              have HU:=Aside0.mk ((hd.block gu (Array.getElem?_eq_some_iff.1 HU.out).1).trans HU.out)
              have HP:=Aside0.mk (Kd.C_below HP.out hd)
              have BX:=Aside0.mk (BX.out.below hd)
              have J1:=Aside0.mk (Kd.C_below J1.out hd)
              have J2:=Aside0.mk (Kd.C_below J2.out hd)
              have HB:=Aside0.mk (below_step HB.out hd)
              have hbc:=Bx.cell BX.out
              obtain ⟨yo,yb⟩:=y
              have hy:=HY.out
              have hcall:=spec_l7By.calls k A0_0 c0_0 l0_0 AP cP part B2 d2 x.f2 B1 d1 x.f1 yo yb W3 (Kd.C_below H0.out HB.out) hc0_0 HP.out hPc J2.out l2_ J1.out l1_ hy
              clear hd hy HY q0 q1 q2
              go_wp2_with (go_at_call 72;refine hcall.mono ?_)
              first|rintro e W4 v rfl hr hd|rintro e W4 ⟨v,rfl,hr,hd⟩
              obtain ⟨AY,cY,rfl⟩:=Kd.R_slice hr
              have HYY:=Aside0.mk (Kd.R_reads' hr).2.2
              have hYc:=(Kd.R_reads' hr).2.1
              have HU:=Aside0.mk ((hd.block gu (Array.getElem?_eq_some_iff.1 HU.out).1).trans HU.out)
              have HP:=Aside0.mk (Kd.C_below HP.out hd)
              have BX:=Aside0.mk (BX.out.below hd)
              have J1:=Aside0.mk (Kd.C_below J1.out hd)
              have J2:=Aside0.mk (Kd.C_below J2.out hd)
              have HB:=Aside0.mk (below_step HB.out hd)
              clear hr hd hcall hbc
              have hbc:=Bx.cell BX.out
              have hsg:=HSG.out
              cases yb with
              | true =>
                simp only [if_true,Option.some.injEq] at hsg
                subst hsg
                have hun:=HUN.out
                simp only [Option.some.injEq] at hun
                subst hun
                have hgo:=HGO.out
                simp only at hgo
                obtain ⟨rr,hrr,hgo⟩:=Option.bind_eq_some_iff.1 hgo
                simp only [Option.some.injEq,Prod.mk.injEq] at hgo
                obtain ⟨rfl,rfl,rfl,rfl⟩:=hgo
                have hcall:=spec_l1Replace.calls k A0_0 c0_0 l0_0 A1 c1 l1 (a:Int) AY cY yo rr W4 (Kd.C_below H0.out HB.out) hc0_0 (Kd.C_below H1.out HB.out) hc1 HYY.out hYc hrr
                clear hrr
                go_wp2_with (go_at_call 73;refine hcall.mono ?_)
                first|rintro e W5 v rfl hr hd|rintro e W5 ⟨v,rfl,hr,hd⟩
                have HOR:=Aside0.mk (Kd.R_mono (ok':=fun _=>True) (Kd.R_lower (base':=w.heap.size) hr HB.out.size) (fun _ _=>trivial))
                have HB:=Aside0.mk (below_step HB.out hd)
                clear hr hd hcall
                go_wp2
                ((try simp only [Exit.inBlock,Exit.then]);refine bodyPost_ret (results_tmp4 rfl _ _ _) rfl ?_)
                exact ⟨_,rfl,HOR.out,HB.out⟩
              | false =>
                simp only [Bool.false_eq_true,if_false] at hsg
                have HSG2:=Aside0.mk hsg
                clear hsg
                go_wp2
                go_roundw
                case rel=>exact ⟨2,0,by omega,rfl,HSG2.out,HP.out,BX.out,HU.out,J1.out,J2.out,HB.out⟩
                case measure=>simp [intOf]
            · simp only [spec_l7Step.sideG,Option.some.injEq] at hsg
              subst hsg
              have hun:=HUN.out
              simp only at hun
              have HUN2:=Aside0.mk hun
              clear hun hP hbx hB hU q0 q1 q2
              go_wp2
              go_roundw
              case rel=>exact ⟨u + 1,by omega,rfl,HUN2.out,HP.out,BX.out,HB.out⟩
              case measure=>simp [intOf];omega
        · obtain rfl:u = l2.length:=by omega
          rw [List.drop_length] at hun
          simp only [spec_l7Step.units,Option.some.injEq] at hun
          subst hun
          have hgo:=HGO.out
          simp only at hgo
          have HGO2:=Aside0.mk hgo
          have BX:=Aside0.mk hbx
          have HB:=Aside0.mk hB
          clear hgo hP hbx hB
          go_wp2
          go_roundw
          case rel=>exact ⟨a,by omega,rfl,HGO2.out,BX.out,HB.out⟩
          case measure=>simp [intOf]
theorem spec_l7Step.mono_side (l0 part:List Int) (x:S65) (m:Nat):∀ n k,LeO (spec_l7Step.sideG k l0 part x m n) (spec_l7Step.sideG (k + 1) l0 part x m n):=by
  induction m with
  | zero=>intro n k;exact LeO.refl _
  | succ m ih =>
    intro n k
    simp only [spec_l7Step.sideG]
    refine LeO.bind (spec_l7By.mono _ _ _ _ _) (fun _=>LeO.ite (LeO.refl _) (ih _ _))
theorem spec_l7Step.mono_units (l0 part:List Int) (l:List S65):∀ u k,LeO (spec_l7Step.units k l0 part l u) (spec_l7Step.units (k + 1) l0 part l u):=by
  induction l with
  | nil=>intro u k;exact LeO.refl _
  | cons x t ih =>
    intro u k
    simp only [spec_l7Step.units,spec_l7Step.sides]
    refine LeO.bind (spec_l7Step.mono_side _ _ _ _ _ _) (fun o=>?_)
    cases o with
    | none=>exact ih _ _
    | some y=>exact LeO.refl _
theorem spec_l7Step.mono_at (l0 t:List Int) (l2:List S65) (a:Nat):∀ k,LeO (spec_l7Step.at k l0 t l2 a) (spec_l7Step.at (k + 1) l0 t l2 a):=by
  induction a with
  | zero=>intro k;exact LeO.refl _
  | succ a ih =>
    intro k
    simp only [spec_l7Step.at]
    refine LeO.bind (spec_l1Part.mono _ _ _ _) (fun part=>LeO.bind (spec_l7Step.mono_units _ _ _ _ _) (fun o=>?_))
    cases o with
    | none=>exact ih _
    | some y=>exact LeO.bind (spec_l1Replace.mono _ _ _ _ _) (fun _=>LeO.refl _)
theorem spec_l7Step.mono (a0 a1:List Int) (a2:List S65) (k:Nat):LeO (spec_l7Step.f k a0 a1 a2) (spec_l7Step.f (k + 1) a0 a1 a2):=by
  unfold spec_l7Step.f
  exact LeO.ite (spec_l7Step.mono_at _ _ _ _ _) (LeO.none _)

end Go.Proofs.Ytlgnanbnicmdaab.QFnExactNormalClause
