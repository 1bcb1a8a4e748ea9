/- The Go functions impl_Grant_80 as Lean functions, each with a proof that its code comes to just these answers; conditions: those of each theorem. -/
import Derived.Test.YtdagpmnadapbjaaZx0
namespace Go.Proofs.Ytdagpmnadapbjaa.Z
open Go.RowKit Go.Proofs.YtdagpmnadapbjaaW.PrintWords Go.Proofs.YtdagpmnadapbjaaW.PrintLast Go.Proofs.YtdagpmnadapbjaaW.PrintMore
attribute [local go_sem] max2_int min2_int max_two min_two max_three min_three max_four min_four   -- for this text's walks alone
set_option linter.unusedVariables false
set_option linter.unusedSimpArgs false
def impl_Grant_80.f (l0 : List (S67)) (a1 : Int) (a2 : Int) : Option ((List (S67))) := if (wrap64 (a1 + 1)) = a2 then (if a1 = a2 then (some l0) else (if 0 ≤ a1 then (if a1 ≤ (l0.length : Int) then (if 0 ≤ (wrap64 (a1 + 1)) then (if (wrap64 (a1 + 1)) ≤ (l0.length : Int) then (some (l0.eraseIdx (a1 : Int).toNat)) else (none)) else (none)) else (none)) else (none))) else (none)
def impl_Grant_80.T5 : Bool × List (List Nat × List Nat) := (true, [([], []), ([], []), ([0, 1], [0, 1]), ([], []), ([], []), ([3, 4], [3, 4]), ([2, 5], [2, 5]), ([6, 6, 0, 1, 2, 3, 4, 5, 6], [0, 3, 6])])
def impl_Grant_80.B5 : List Nat := [0, 0, 3, 0, 0, 24, 63, 127]
theorem impl_Grant_80.tab5 : rtab .any (opsOf Try.f80 5) = impl_Grant_80.T5 := by kernel_rfl
theorem impl_Grant_80.bits5 : waitsOk impl_Grant_80.T5.2 impl_Grant_80.B5 = true := by kernel_rfl
set_option maxHeartbeats 8000000 in
set_option maxRecDepth 100000 in
theorem impl_Grant_80.calls (P0_ : Nat → Prop) (u9000_ : Value) (l0 : List (S67)) (a1 : Int) (a2 : Int) (r : List (S67)) (w0 w : World) (hB : Below w0.heap.size w0 w) (ho0 : Kd.R k67 67 w w0.heap.size P0_ u9000_ l0) (h : impl_Grant_80.f l0 a1 a2 = some r) :
  Calls Try.prog 80 #[u9000_, .int .i64 a1, .int .i64 a2] w fun e w' => ∃ v0_ : Value, e = .returned (v0_) ∧ Kd.R k67 67 w' w0.heap.size (fun k_ => (P0_ k_ ∨ w.heap.size ≤ k_)) v0_ r ∧ Below w0.heap.size w0 w' ∧ Kept w w' (fun k_ => P0_ k_) := by
 have HO0 := am (show Kd.R k67 67 w w0.heap.size (fun k_ => (P0_ k_ ∨ w.heap.size ≤ k_)) u9000_ l0 from Kd.R_mono ho0 (fun k_ hk => (.inl hk)))
 have HK := am (Kept.refl w (fun k_ => P0_ k_))
 have HW0 := am hB.size
 have HB := am hB
 clear hB
 have HJ_ : (wrap64 (a1 + 1)) = a2 := by
  unfold impl_Grant_80.f at h
  split at h
  ·assumption
  ·cases h
 have H : (if a1 = a2 then (some l0) else (if 0 ≤ a1 then (if a1 ≤ (l0.length : Int) then (if 0 ≤ (wrap64 (a1 + 1)) then (if (wrap64 (a1 + 1)) ≤ (l0.length : Int) then (some (l0.eraseIdx (a1 : Int).toNat)) else (none)) else (none)) else (none)) else (none))) = some r := by
  unfold impl_Grant_80.f at h
  rw [if_pos HJ_] at h
  exact h
 clear h
 by_cases c4 : a1 = a2
 ·rw [if_pos c4] at H
  exact absurd HJ_ (by unfold wrap64; omega)
 ·rw [if_neg c4] at H
  have c4b0 : (a1 == a2) = false := beq_eq_false_iff_ne.mpr c4
  have c4b1 : (a1 != a2) = true := bne_iff_ne.mpr c4
  by_cases c6 : 0 ≤ a1
  ·rw [if_pos c6] at H
   have c6b0 := eq_true c6
   have c6b1 : decide (0 ≤ a1) = true := decide_eq_true c6
   clear c6
   by_cases c7 : a1 ≤ (l0.length : Int)
   ·rw [if_pos c7] at H
    have c7b0 := eq_true c7
    have c7b1 : decide (a1 ≤ (l0.length : Int)) = true := decide_eq_true c7
    clear c7
    obtain ⟨y1632, hy1632⟩ : ∃ y_ : List (S67), y_ = (l0.take (a1 : Int).toNat) := ⟨_, rfl⟩
    replace H : (if 0 ≤ (wrap64 (a1 + 1)) then (if (wrap64 (a1 + 1)) ≤ (l0.length : Int) then (some (l0.eraseIdx (a1 : Int).toNat)) else (none)) else (none)) = some r := by first | (rw [hy1632]; with_reducible exact H) | (have H2_ := (Option.bind_some _ _).symm.trans H; rw [hy1632]; with_reducible exact H2_) | (have H2_ := (Option.bind_some _ _).symm.trans H; with_reducible exact H2_) | with_reducible exact H | (rw [hy1632]; exact H) | exact H
    have Ny1632 := am hy1632
    clear hy1632
    have hji8 : (wrap64 (a1 + 1)) = a2 := HJ_
    replace H : (if 0 ≤ (a2) then (if (a2) ≤ (l0.length : Int) then (some (l0.eraseIdx (a1 : Int).toNat)) else (none)) else (none)) = some r := by first | (rw [hji8] at H; exact H) | (simp only [hji8] at H ⊢; exact H)
    have hji8w : (IntKind.i64.wrap (a1 + 1)) = a2 := (i64_w _).trans hji8
    by_cases c9 : 0 ≤ (a2)
    ·rw [if_pos c9] at H
     have c9b0 := eq_true c9
     have c9b1 : decide (0 ≤ (a2)) = true := decide_eq_true c9
     clear c9
     by_cases c10 : (a2) ≤ (l0.length : Int)
     ·rw [if_pos c10] at H
      have c10b0 := eq_true c10
      have c10b1 : decide ((a2) ≤ (l0.length : Int)) = true := decide_eq_true c10
      clear c10
      obtain ⟨y1636, hy1636⟩ : ∃ y_ : List (S67), y_ = (l0.drop ((a2) : Int).toNat) := ⟨_, rfl⟩
      replace H : (some (l0.eraseIdx (a1 : Int).toNat)) = some r := by first | (rw [hy1636]; with_reducible exact H) | (have H2_ := (Option.bind_some _ _).symm.trans H; rw [hy1636]; with_reducible exact H2_) | (have H2_ := (Option.bind_some _ _).symm.trans H; with_reducible exact H2_) | with_reducible exact H | (rw [hy1636]; exact H) | exact H
      have Ny1636 := am hy1636
      clear hy1636
      obtain ⟨y1640, hy1640⟩ : ∃ y_ : List (S67), y_ = (l0.eraseIdx (a1 : Int).toNat) := ⟨_, rfl⟩
      replace H : (some y1640) = some r := by first | (rw [hy1640]; with_reducible exact H) | (have H2_ := (Option.bind_some _ _).symm.trans H; rw [hy1640]; with_reducible exact H2_) | (have H2_ := (Option.bind_some _ _).symm.trans H; with_reducible exact H2_) | with_reducible exact H | (rw [hy1640]; exact H) | exact H
      have Ny1640 := am hy1640
      clear hy1640
      obtain rfl := Option.some.inj H
      obtain ⟨Ao11, co11, eo11⟩ := Kd.R_slice HO0.out
      subst eo11
      have hj_ : 0 ≤ (a1 : Int) := ofd
      have hh_ : (a1 : Int) ≤ (l0.length : Int) := ofd
      have h0_ : 0 ≤ (a2 : Int) := ofd
      have hl_ : (a2 : Int) ≤ (l0.length : Int) := ofd
      have HCO_ := am (Kd.R_reads' HO0.out).2.1
      have hw_ : a2 = a1 + 1 := by
       have hb_ := (Kd.R_reads' HO0.out).2.2.2.1
       have h00_ := h0_
       rw [← HJ_] at h00_ ⊢
       unfold wrap64 at h00_ ⊢
       omega
      have HLT_ := am (show (a1 : Int).toNat < l0.length by omega)
      obtain ⟨i0x_, hi0x_, hzx_⟩ := Option.map_eq_some_iff.1 info67
      simp only [Prod.mk.injEq] at hzx_
      obtain ⟨u3_, hcut3_⟩ := cut_three (P := Try.prog) 36 67 .i64 .i64 .i64 Try.underlying36 hi0x_ Ao11 l0.length co11 a1 a2 (l0.length : Int) hj_ (by omega) hl_ (by have := HCO_.out; omega)
      clear hj_ hh_ h0_ hl_ hw_
      go_enter Try.func80, Try.ntmps80
      try go_wp2
      replace HO0 := am (Kd.R_drew HO0.out)
      replace HK := am (Kept.drew HK.out)
      replace HB := am (below_drew1 HB.out)
      have q13 : (a1 : Int) ≤ ((l0.length : Int) : Int) := ofd
      obtain ⟨i013, hi013, _, hsz13, _⟩ := info_parts info67
      have hroom13 : l0.length ≤ co11 := (Kd.R_reads' HO0.out).2.1
      have hC13 : Kd.C k67 _ Ao11 l0.length l0 := (Kd.R_reads' HO0.out).2.2
      have hcut13 := cut_to (P := Try.prog) 36 67 .i64 Try.underlying36 hi013 Ao11 l0.length co11 a1 (ofd) q13 hroom13
      have hr13 := Kd.C_take (m := (a1 : Int).toNat) hC13 (by omega)
      have hy13 : y1632.length = (a1 : Int).toNat := (by rw [Ny1632.out, List.length_take]; omega)
      rw [← Ny1632.out] at hr13
      rw [← hy13] at hcut13
      have HR1635 := am hr13
      have HC1635 := am (show y1632.length ≤ co11 from by omega)
      clear hr13 hC13 hroom13 hi013 hsz13
      have KY13 := am hy13
      clear hy13
      have KL13 := am (show (a1 : Int).toNat ≤ l0.length from by omega)
      replace q13 := eq_true q13
      have q14 : ((a2) : Int) ≤ ((l0.length : Int) : Int) := ofd
      obtain ⟨i014, hi014, _, hsz14, _⟩ := info_parts info67
      have hroom14 : l0.length ≤ co11 := (Kd.R_reads' HO0.out).2.1
      have hC14 : Kd.C k67 _ Ao11 l0.length l0 := (Kd.R_reads' HO0.out).2.2
      have q014 : (0 : Int) ≤ ((a2) : Int) := ofd
      have hcut14 := cut_from (P := Try.prog) 36 67 .i64 Try.underlying36 hi014 2 hsz14 Ao11 l0.length co11 (a2) q014 q14
      have hr14 := Kd.C_drop (m := ((a2) : Int).toNat) (c := co11) hC14 (by omega) hroom14
      obtain ⟨A14, hA14⟩ : ∃ A1, A1 = (if co11 = ((a2) : Int).toNat then Ao11 else (Ao11 : Option Addr).map (·.add (((a2) : Int).toNat * 2))) := ⟨_, rfl⟩
      obtain ⟨c14, hc14⟩ : ∃ c1, c1 = co11 - ((a2) : Int).toNat := ⟨_, rfl⟩
      have hy14 : y1636.length = l0.length - ((a2) : Int).toNat := (by rw [Ny1636.out, List.length_drop] <;> omega)
      rw [show (l0).drop ((a2) : Int).toNat = y1636 from Ny1636.out.symm] at hr14
      replace hr14 : Kd.C k67 _ A14 y1636.length y1636 := (by rw [hA14]; exact hr14)
      rw [← hy14, ← hA14, ← hc14] at hcut14
      have HR1639 := am hr14
      have HC1639 := am (show y1636.length ≤ c14 from by rw [hy14, hc14]; exact Nat.sub_le_sub_right hroom14 _)
      clear hr14 hC14 hroom14 hi014 hsz14 hc14
      have KY14 := am hy14
      have KA14 := am hA14
      clear hy14 hA14
      have KL14 := am (show ((a2) : Int).toNat ≤ l0.length from by omega)
      replace q14 := eq_true q14
      obtain ⟨go16, co16, eo16, gb16, gl16, cl16, HG16⟩ := Kd.R_form HO0.out (by have hj_ : 0 ≤ (a1 : Int) := ofd; have hl_ : (a2 : Int) ≤ (l0.length : Int) := ofd; have hh_ : (a1 : Int) ≤ (l0.length : Int) := ofd; rw [← hji8] at hl_; unfold wrap64 at hl_; omega)
      (first | cases eo16 | (injection eo16 with ea_ en_ ec_; (first | subst ea_ | (injection ea_ with ea_; subst ea_)); subst ec_; clear en_))
      have GB16 := am gb16
      have GG16 := am HG16
      clear gb16 gl16 HG16
      have HMgo16 := am (show (P0_ go16 ∨ w.heap.size ≤ go16) from (HO0.out.1 _ rfl))
      refine start_ (n := 8) (S := fun w' => True) (ds := []) #[false, false, false, false, false, false, false, false] (by kernel_rfl) rfl rfl trivial (fun hHeld => ?_); refine with_tabW impl_Grant_80.tab5 impl_Grant_80.bits5 (fun HT_ HW_ => ?_)
      generalize w.drew = w12 at HO0 HK HB GG16 HR1635 HR1639 hHeld ⊢
      refine pure_ (i := 0) (N := some 20) (v := ?_) (a' := ?_) #[true, false, false, false, false, false, false, false] rfl rfl (any_of HT_.out (by kernel_rfl)) (fun _ _ _ h => h) (Or.inl ⟨by rfl, ?_⟩) ?_ ?_
      rotate_left
      ·intro w'
       go_simp
       with_reducible rfl
      rotate_left
      ·simp only [Act.put, List.setIfInBounds_toArray, List.set_cons_zero, List.set_cons_succ, i64_w, i32_w]
       rfl
      refine pure_ (i := 1) (N := some 21) (v := ?_) (a' := ?_) #[true, true, false, false, false, false, false, false] rfl rfl (any_of HT_.out (by kernel_rfl)) (fun _ _ _ h => h) (Or.inl ⟨by rfl, ?_⟩) ?_ ?_
      rotate_left
      ·intro w'
       go_simp
       with_reducible rfl
      rotate_left
      ·simp only [Act.put, List.setIfInBounds_toArray, List.set_cons_zero, List.set_cons_succ, i64_w, i32_w]
       rfl
      refine pure_ (i := 2) (N := some 22) (v := ?_) (a' := ?_) #[true, true, true, false, false, false, false, false] rfl rfl (any_of HT_.out (by kernel_rfl)) (fun _ _ _ h => h) (Or.inl ⟨by rfl, ?_⟩) ?_ ?_
      rotate_left
      ·intro w'
       go_simp
       with_reducible rfl
      rotate_left
      ·simp only [Act.put, List.setIfInBounds_toArray, List.set_cons_zero, List.set_cons_succ, i64_w, i32_w]
       rfl
      refine pure_ (i := 3) (N := some 23) (v := ?_) (a' := ?_) #[true, true, true, true, false, false, false, false] rfl rfl (any_of HT_.out (by kernel_rfl)) (fun _ _ _ h => h) (Or.inl ⟨by rfl, ?_⟩) ?_ ?_
      rotate_left
      ·intro w'
       go_simp
       with_reducible rfl
      rotate_left
      ·simp only [Act.put, List.setIfInBounds_toArray, List.set_cons_zero, List.set_cons_succ, i64_w, i32_w]
       rfl
      refine pure_ (i := 4) (N := some 24) (v := ?_) (a' := ?_) #[true, true, true, true, true, false, false, false] rfl rfl (any_of HT_.out (by kernel_rfl)) (fun _ _ _ h => h) (Or.inl ⟨by rfl, ?_⟩) ?_ ?_
      rotate_left
      ·intro w'
       go_simp
       with_reducible rfl
      rotate_left
      ·simp only [Act.put, List.setIfInBounds_toArray, List.set_cons_zero, List.set_cons_succ, i64_w, i32_w]
       rfl
      refine pure_ (i := 5) (N := some 25) (v := ?_) (a' := ?_) #[true, true, true, true, true, true, false, false] rfl rfl (any_of HT_.out (by kernel_rfl)) (fun _ _ _ h => h) (Or.inl ⟨by rfl, ?_⟩) ?_ ?_
      rotate_left
      ·intro w'
       go_simp
       with_reducible rfl
      rotate_left
      ·simp only [Act.put, List.setIfInBounds_toArray, List.set_cons_zero, List.set_cons_succ, i64_w, i32_w]
       rfl
      refine one_ (i := 6) (N := some 26) #[true, true, true, true, true, true, true, false] rfl rfl (one_of HT_.out (by kernel_rfl)) (by decide) (fun K hK => ?_)
      have hj_ : 0 ≤ (a1 : Int) := ofd
      have hl_ : (a2 : Int) ≤ (l0.length : Int) := ofd
      have hh_ : (a1 : Int) ≤ (l0.length : Int) := ofd
      have hb_ := (Kd.R_reads' HO0.out).2.2.2.1
      have h0_ : (0 : Int) ≤ (a2 : Int) := ofd
      have hy1_ := KY13.out
      have hk_ : (a2 : Int).toNat = y1632.length + 1 := (by have hw_ : (a2 : Int) = a1 + 1 := (by have h00_ := h0_; rw [← hji8] at h00_ ⊢; unfold wrap64 at h00_ ⊢; omega); rw [hw_]; omega)
      refine Kd.R_delete_step k67 (w0 := w0) w0.heap.size (by rfl) (.tmp 22) (.tmp 25) 36 67 rfl Try.underlying36 (by kernel_rfl) (g := go16) (n := l0.length) (c := co11) (k := y1632.length) rfl rfl ?hA ?hm (pkR HO0.out) ?hk (pkB HB.out) (below_size (pkB HB.out)) ?_
      (case hA => have ha_ := KA14.out; rw [hk_] at ha_; exact ha_)
      (case hm => have ha_ := KY14.out; omega)
      (case hk => omega)
      intro w15 ho hb hg
      clear hj_ hl_ hh_ hb_ hk_ h0_
      rw [hy1_, ← Ny1640.out] at ho
      clear hy1_
      have hn_ : l0.length - 1 = y1640.length := (by have := (Kd.R_reads' ho).1; omega)
      rw [hn_] at ho ⊢
      clear hn_
      replace HB := am (hb)
      replace HK := am (Kept.of_grown (S := (fun k_ => P0_ k_)) hg (by repeat (first | (with_reducible first | exact HK.out | apply Kept.alloc | apply Kept.drewN | apply Kept.drew) | exact HK.out)) (fun k_ e_ => (HO0.out.1 k_ e_)))
      replace HO0 := am (ho)
      clear ho hb hg
      refine hK.out _ _ trivial (fun hHeld => ?_)
      clear hK K
      refine norm_ (a' := ?_) ?_ ?_
      rotate_left
      ·show Act.put _ (some 26) _ = _
       simp only [Act.put, List.setIfInBounds_toArray, List.set_cons_zero, List.set_cons_succ, i64_w, i32_w]
       rfl
      refine pure_ (i := 7) (N := some 0) (v := ?_) (a' := ?_) #[true, true, true, true, true, true, true, true] rfl rfl (any_of HT_.out (by kernel_rfl)) (fun _ _ _ h => h) (Or.inl ⟨by rfl, ?_⟩) ?_ ?_
      rotate_left
      ·intro w'
       go_simp
       with_reducible rfl
      rotate_left
      ·simp only [Act.put, List.setIfInBounds_toArray, List.set_cons_zero, List.set_cons_succ, i64_w, i32_w]
       rfl
      refine done_ (done_of HT_.out (by kernel_rfl)) ?_
      have hlen_ : y1640.length = l0.length - 1 := by have := HLT_.out; rw [Ny1640.out, List.length_eraseIdx]; split <;> omega
      have hco_ := HCO_.out
      have hlt_ : y1640.length < l0.length := by have := HLT_.out; omega
      have hcutf_ := cut_far (P := Try.prog) 36 67 .i64 .i64 Try.underlying36 hi0x_ go16 y1640.length co11 (y1640.length : Int) (l0.length : Int) (by omega) (by omega) (by omega)
      rw [hzx_.2.1] at hcutf_
      simp only [Int.toNat_natCast] at hcutf_
      obtain ⟨w2_, hcl_, hrc_, hgc_⟩ := Kd.R_clear2 (n := l0.length) Try.underlying36 info67 rfl (by intro u hu_; simp [Value.cells] at hu_; (rcases hu_ with rfl | rfl <;> rfl)) (by decide) HO0.out hlt_ hco_
      have HR2_ := am hrc_
      have HB2_ := am (pw_below_grown HB.out (some go16) HB.out.size hgc_ (fun k_ e_ => by injection e_ with e_; have := GB16.out; omega))
      have HK2_ := am (Kept.of_grown (S := fun k_ => P0_ k_) hgc_ HK.out (fun k_ e_ => HO0.out.1 k_ e_))
      (try simp only [show (k67).sz = 2 from rfl] at hcl_)
      clear hzx_ hi0x_ hrc_ hgc_ HB HK HO0 hlen_ hlt_ hco_
      go_wp2
      go_ret
      exact ⟨_, rfl, HR2_.out, HB2_.out, HK2_.out⟩
     ·rw [if_neg c10] at H
      exact absurd H (by simp)
    ·rw [if_neg c9] at H
     exact absurd H (by simp)
   ·rw [if_neg c7] at H
    exact absurd H (by simp)
  ·rw [if_neg c6] at H
   exact absurd H (by simp)
end Go.Proofs.Ytdagpmnadapbjaa.Z
