/- Go code comes to just these functions; conditions: in each theorem. -/
import Derived.Test.YtdagpmnadapbjaaZx0
import Derived.Test.YtdagpmnadapbjaaZx11
import Derived.Test.YtdagpmnadapbjaaZx22
namespace Go.Proofs.Ytdagpmnadapbjaa.Z
open Go.RowKit Go.Proofs.YtdagpmnadapbjaaW.PrintWords Go.Proofs.YtdagpmnadapbjaaW.PrintLast Go.Proofs.YtdagpmnadapbjaaW.PrintMore
attribute [local go_sem] max2_int min2_int max_two min_two max_three min_three max_four min_four   -- for this text's walks alone
set_option linter.unusedVariables false
set_option linter.unusedSimpArgs false
mutual
def impl_Reset.j0 : Nat → Bool → Bool → Bool → List Int → List Int → Int → Int → Int → Bool → Bool → List Int → List Int → Int → Int → Int → Option (Bool × Bool × List Int × List Int × Int × Int × Int × Int)
 | 0, _, _, _, _, _, _, _, _, _, _, _, _, _, _, _ => none
 | k + 1, x5, x337000, x337001, x337002, x337003, x337004, x337005, x337006, x350000, x350001, x350002, x350003, x350004, x350005, x350006 => (impl_EventOk.f k x337000 x337001 x337002 x337003 x337004 x337005 x337006).bind fun t350 => (if t350 = true then (if x5 = true then (impl_Reset.j1 k x5 (x337005 == 1000000000) x350000 x350001 x350002 x350003 x350004 x350005 x350006) else (impl_Reset.j1 k x5 false x350000 x350001 x350002 x350003 x350004 x350005 x350006)) else (some (x350000, x350001, x350002, x350003, x350004, x350005, x350006, 1)))
def impl_Reset.j1 : Nat → Bool → Bool → Bool → Bool → List Int → List Int → Int → Int → Int → Option (Bool × Bool × List Int × List Int × Int × Int × Int × Int)
 | 0, _, _, _, _, _, _, _, _, _ => none
 | k + 1, x5, x19, x350000, x350001, x350002, x350003, x350004, x350005, x350006 => if x19 = true then (some (x350000, x350001, x350002, x350003, x350004, x350005, x350006, 2)) else (if x5 = true then (some (x350000, false, x350002, x350003, x350004, wrap64 (x350005 + 1), x350006, 0)) else (some (x350000, false, x350002, x350003, x350004, x350005, x350006, 0)))
end
def impl_Reset.f (k : Nat) (a0_0 : Bool) (a0_1 : Bool) (l0_2 : List Int) (l0_3 : List Int) (a0_4 : Int) (a0_5 : Int) (a0_6 : Int) : Option (Bool × Bool × List Int × List Int × Int × Int × Int × Int) := (impl_copyEvent.f a0_0 a0_1 l0_2 l0_3 a0_4 a0_5 a0_6).bind fun bt338 => (if a0_0 = true then (impl_Reset.j0 k a0_1 a0_0 a0_1 l0_2 l0_3 a0_4 a0_5 a0_6 bt338.1 bt338.2.1 bt338.2.2.1 bt338.2.2.2.1 bt338.2.2.2.2.1 bt338.2.2.2.2.2.1 bt338.2.2.2.2.2.2) else (impl_Reset.j0 k false a0_0 a0_1 l0_2 l0_3 a0_4 a0_5 a0_6 bt338.1 bt338.2.1 bt338.2.2.1 bt338.2.2.2.1 bt338.2.2.2.2.1 bt338.2.2.2.2.2.1 bt338.2.2.2.2.2.2))
theorem impl_Reset.mono_l : ∀ k, (∀ y0 y1 y2 y3 y4 y5 y6 y7 y8 y9 y10 y11 y12 y13 y14, LeO (impl_Reset.j0 k y0 y1 y2 y3 y4 y5 y6 y7 y8 y9 y10 y11 y12 y13 y14) (impl_Reset.j0 (k + 1) y0 y1 y2 y3 y4 y5 y6 y7 y8 y9 y10 y11 y12 y13 y14)) ∧ (∀ y0 y1 y2 y3 y4 y5 y6 y7 y8, LeO (impl_Reset.j1 k y0 y1 y2 y3 y4 y5 y6 y7 y8) (impl_Reset.j1 (k + 1) y0 y1 y2 y3 y4 y5 y6 y7 y8))
 | 0 => ⟨fun _ _ _ _ _ _ _ _ _ _ _ _ _ _ _ r h => by simp [impl_Reset.j0] at h, fun _ _ _ _ _ _ _ _ _ r h => by simp [impl_Reset.j1] at h⟩
 | k + 1 => by
  obtain ⟨ih0, ih1⟩ := impl_Reset.mono_l k
  refine ⟨?_, ?_⟩
  ·intro y0 y1 y2 y3 y4 y5 y6 y7 y8 y9 y10 y11 y12 y13 y14
   unfold impl_Reset.j0
   repeat' first
   | (with_reducible exact ih0 _ _ _ _ _ _ _ _ _ _ _ _ _ _ _)
   | (with_reducible exact ih1 _ _ _ _ _ _ _ _ _)
   | (with_reducible exact impl_EventOk.mono _ _ _ _ _ _ _ _)
   | (with_reducible exact LeO.refl _)
   | (with_reducible exact LeO.none _)
   | (with_reducible refine LeO.ite ?_ ?_)
   | (with_reducible refine LeO.bind ?_ (fun _ => ?_))
  ·intro y0 y1 y2 y3 y4 y5 y6 y7 y8
   unfold impl_Reset.j1
   repeat' first
   | (with_reducible exact ih0 _ _ _ _ _ _ _ _ _ _ _ _ _ _ _)
   | (with_reducible exact ih1 _ _ _ _ _ _ _ _ _)
   | (with_reducible exact impl_EventOk.mono _ _ _ _ _ _ _ _)
   | (with_reducible exact LeO.refl _)
   | (with_reducible exact LeO.none _)
   | (with_reducible refine LeO.ite ?_ ?_)
   | (with_reducible refine LeO.bind ?_ (fun _ => ?_))
theorem impl_Reset.mono : ∀ a0 a1 a2 a3 a4 a5 a6 k, LeO (impl_Reset.f k a0 a1 a2 a3 a4 a5 a6) (impl_Reset.f (k + 1) a0 a1 a2 a3 a4 a5 a6) := by
 intro a0 a1 a2 a3 a4 a5 a6 k
 obtain ⟨ih0, ih1⟩ := impl_Reset.mono_l k
 unfold impl_Reset.f
 repeat' first
   | (with_reducible exact ih0 _ _ _ _ _ _ _ _ _ _ _ _ _ _ _)
   | (with_reducible exact ih1 _ _ _ _ _ _ _ _ _)
   | (with_reducible exact impl_EventOk.mono _ _ _ _ _ _ _ _)
   | (with_reducible exact LeO.refl _)
   | (with_reducible exact LeO.none _)
   | (with_reducible refine LeO.ite ?_ ?_)
   | (with_reducible refine LeO.bind ?_ (fun _ => ?_))
set_option maxHeartbeats 8000000 in
set_option maxRecDepth 100000 in
theorem impl_Reset.calls (k : Nat) (a0_0 : Bool) (a0_1 : Bool) (A0_2 : Option Addr) (c0_2 : Nat) (l0_2 : List Int) (A0_3 : Option Addr) (c0_3 : Nat) (l0_3 : List Int) (a0_4 : Int) (a0_5 : Int) (a0_6 : Int) (r1 : Bool) (r2 : Bool) (r3 : List Int) (r4 : List Int) (r5 : Int) (r6 : Int) (r7 : Int) (r8 : Int) (w : World) (hr0_2 : Kd.C (Kd.int .i64) w A0_2 l0_2.length l0_2) (hc0_2 : l0_2.length ≤ c0_2) (hr0_3 : Kd.C (Kd.int .i64) w A0_3 l0_3.length l0_3) (hc0_3 : l0_3.length ≤ c0_3) (h : impl_Reset.f k a0_0 a0_1 l0_2 l0_3 a0_4 a0_5 a0_6 = some (r1, r2, r3, r4, r5, r6, r7, r8)) :
  Calls Try.prog 25 #[.agg #[.bool a0_0, .bool a0_1, .slice A0_2 l0_2.length c0_2, .slice A0_3 l0_3.length c0_3, .int .i64 a0_4, .int .i64 a0_5, .int .i64 a0_6]] w fun e w' => ∃ v2_ v3_ : Value, e = .returned (.tuple #[.agg #[.bool r1, .bool r2, v2_, v3_, .int .i64 r5, .int .i64 r6, .int .i64 r7], .int .i64 r8]) ∧ Kd.R (Kd.int .i64) 3 w' w.heap.size (fun k_ => some k_ ≠ (v3_ : Value).ownBlock) v2_ r3 ∧ Kd.R (Kd.int .i64) 3 w' w.heap.size (fun k_ => some k_ ≠ (v2_ : Value).ownBlock) v3_ r4 ∧ Below w.heap.size w w' := by
 have hu27 := Try.underlying27
 have HR0_2 := am hr0_2
 have HC0_2 := am hc0_2
 clear hr0_2 hc0_2
 have HR0_3 := am hr0_3
 have HC0_3 := am hc0_3
 clear hr0_3 hc0_3
 have HB := am (Below.refl w.heap.size w)
 have H : ((impl_copyEvent.f a0_0 a0_1 l0_2 l0_3 a0_4 a0_5 a0_6).bind fun bt338 => (if a0_0 = true then (impl_Reset.j0 k a0_1 a0_0 a0_1 l0_2 l0_3 a0_4 a0_5 a0_6 bt338.1 bt338.2.1 bt338.2.2.1 bt338.2.2.2.1 bt338.2.2.2.2.1 bt338.2.2.2.2.2.1 bt338.2.2.2.2.2.2) else (impl_Reset.j0 k false a0_0 a0_1 l0_2 l0_3 a0_4 a0_5 a0_6 bt338.1 bt338.2.1 bt338.2.2.1 bt338.2.2.2.1 bt338.2.2.2.2.1 bt338.2.2.2.2.2.1 bt338.2.2.2.2.2.2))) = some (r1, r2, r3, r4, r5, r6, r7, r8) := h
 clear h
 replace H := Option.bind_eq_some_iff.mp H
 obtain ⟨⟨t338, t339, t340, t343, t346, t347, t348⟩, A20, H⟩ := H
 replace H : (if a0_0 = true then (impl_Reset.j0 k a0_1 a0_0 a0_1 l0_2 l0_3 a0_4 a0_5 a0_6 t338 t339 t340 t343 t346 t347 t348) else (impl_Reset.j0 k false a0_0 a0_1 l0_2 l0_3 a0_4 a0_5 a0_6 t338 t339 t340 t343 t346 t347 t348)) = some (r1, r2, r3, r4, r5, r6, r7, r8) := H
 have A2 := am A20
 clear A20
 have HC3 := am H
 clear H
 go_enter Try.func25, Try.ntmps25
 go_upto_region 2 with (first | ((with_reducible refine gate_dst (N := 1) rfl ?_); refine box_event ?hg (N := 1) ?hd (cs := #[.bool a0_0, .bool a0_1, .slice A0_2 l0_2.length c0_2, .slice A0_3 l0_3.length c0_3, .int .i64 a0_4, .int .i64 a0_5, .int .i64 a0_6]) (t := 27) ?hr ?_; (case hd => rfl); (case hg => rfl); (case hr => first | (go_simp; done) | (go_simp; rfl)); intro gb336 hg w4 hbox hb; have BK336 := am (hbox); have GW336 := am ((by rw [hg]; exact (below_size (pkB HB.out)) : w.heap.size ≤ gb336)); have GE336 := am ((by rw [hg]; exact (below_size (pkB HB.out)) : w.heap.size ≤ gb336)); replace HB := am (below_step (pkB HB.out) hb); clear hb hbox hg) | ((with_reducible refine gate_dst (N := 2) rfl ?_); refine box_event ?hg (N := 2) ?hd (cs := #[.bool false, .bool false, .slice none 0 0, .slice none 0 0, .int .i64 0, .int .i64 0, .int .i64 0]) (t := 27) ?hr ?_; (case hd => rfl); (case hg => rfl); (case hr => first | (go_simp; done) | (go_simp; rfl)); intro gb337 hg w5 hbox hb; have BK337 := am (hbox); have GW337 := am ((by rw [hg]; exact (below_size (pkW HB.out)) : w.heap.size ≤ gb337)); have GE337 := am ((by rw [hg]; exact (below_size (pkW HB.out)) : w.heap.size ≤ gb337)); replace HB := bst HB hb; have NB336_337 := am ((by rw [hg]; exact Nat.ne_of_lt (blk_lt (g := gb336) (o := .cells #[.bool a0_0, .bool a0_1, .slice A0_2 l0_2.length c0_2, .slice A0_3 l0_3.length c0_3, .int .i64 a0_4, .int .i64 a0_5, .int .i64 a0_6] 27 (0, 0)) (pkK BK336.out)) : gb336 ≠ gb337)); have NB337_336 := am ((by rw [hg]; exact Nat.ne_of_gt (blk_lt (g := gb336) (o := .cells #[.bool a0_0, .bool a0_1, .slice A0_2 l0_2.length c0_2, .slice A0_3 l0_3.length c0_3, .int .i64 a0_4, .int .i64 a0_5, .int .i64 a0_6] 27 (0, 0)) (pkK BK336.out)) : gb337 ≠ gb336)); replace BK336 := bbk BK336 hb; clear hb hbox hg; have hnb6 := NB336_337.out; have hnc6 := NB337_336.out; obtain ⟨hcz7_0, hcz7_1, hcz7_2, hcz7_3, hcz7_4, hcz7_5, hcz7_6, hfz7_0, hfz7_1, hfz7_2, hfz7_3, hfz7_4, hfz7_5, hfz7_6⟩ := bk7 BK336.out) | ((with_reducible refine gate_callee (f := 64) rfl ?_); refine goesL_ (some 7) rfl rfl Try.func64 (by kernel_rfl) rfl #[.agg #[.bool a0_0, .bool a0_1, .slice A0_2 l0_2.length c0_2, .slice A0_3 l0_3.length c0_3, .int .i64 a0_4, .int .i64 a0_5, .int .i64 a0_6]] rfl mpx ?_; (with_reducible refine (impl_copyEvent.calls a0_0 a0_1 _ _ l0_2 _ _ l0_3 a0_4 a0_5 a0_6 t338 t339 t340 t343 t346 t347 t348 _ ?side1 ?side2 ?side3 ?side4 A2.out).mono ?_); (case side1 => exact pkC (Kd.C_below HR0_2.out HB.out)); (case side2 => exact HC0_2.out); (case side3 => exact pkC (Kd.C_below HR0_3.out HB.out)); (case side4 => exact HC0_3.out); rintro e w8 ⟨v341, v344, rfl, ho0, ho1, hb⟩; refine ⟨_, rfl, ?_⟩; have HO342 := am (Kd.R_lower ho0 (below_size (pkW HB.out))); have HO345 := am (Kd.R_lower ho1 (below_size (pkW HB.out))); replace BK336 := bbk BK336 hb; replace BK337 := bbk BK337 hb; replace HB := bst HB hb; (try clear hb ho0 ho1)) | ((with_reducible refine gate_dst (N := 4) rfl ?_); refine box_event ?hg (N := 4) ?hd (cs := #[.bool false, .bool false, .slice none 0 0, .slice none 0 0, .int .i64 0, .int .i64 0, .int .i64 0]) (t := 27) ?hr ?_; (case hd => rfl); (case hg => rfl); (case hr => first | (go_simp; done) | (go_simp; rfl)); intro gb349 hg w9 hbox hb; replace HO342 := rbl HO342 hb; replace HO345 := rbl HO345 hb; have BK349 := am (hbox); have GW349 := am ((by rw [hg]; exact (below_size (pkW HB.out)) : w.heap.size ≤ gb349)); have GE349 := am ((by rw [hg]; exact (below_size (pkW HB.out)) : w.heap.size ≤ gb349)); replace HB := bst HB hb; have NB336_349 := am ((by rw [hg]; exact Nat.ne_of_lt (blk_lt (g := gb336) (o := .cells #[.bool a0_0, .bool a0_1, .slice A0_2 l0_2.length c0_2, .slice A0_3 l0_3.length c0_3, .int .i64 a0_4, .int .i64 a0_5, .int .i64 a0_6] 27 (0, 0)) (pkK BK336.out)) : gb336 ≠ gb349)); have NB349_336 := am ((by rw [hg]; exact Nat.ne_of_gt (blk_lt (g := gb336) (o := .cells #[.bool a0_0, .bool a0_1, .slice A0_2 l0_2.length c0_2, .slice A0_3 l0_3.length c0_3, .int .i64 a0_4, .int .i64 a0_5, .int .i64 a0_6] 27 (0, 0)) (pkK BK336.out)) : gb349 ≠ gb336)); replace BK336 := bbk BK336 hb; have NB337_349 := am ((by rw [hg]; exact Nat.ne_of_lt (blk_lt (g := gb337) (o := .cells #[.bool false, .bool false, .slice none 0 0, .slice none 0 0, .int .i64 0, .int .i64 0, .int .i64 0] 27 (0, 0)) (pkK BK337.out)) : gb337 ≠ gb349)); have NB349_337 := am ((by rw [hg]; exact Nat.ne_of_gt (blk_lt (g := gb337) (o := .cells #[.bool false, .bool false, .slice none 0 0, .slice none 0 0, .int .i64 0, .int .i64 0, .int .i64 0] 27 (0, 0)) (pkK BK337.out)) : gb349 ≠ gb337)); replace BK337 := bbk BK337 hb; clear hb hbox hg; have hnb10 := NB349_336.out; have hnc10 := NB336_349.out; have hnb11 := NB349_337.out; have hnc11 := NB337_349.out; obtain ⟨hcz12_0, hcz12_1, hcz12_2, hcz12_3, hcz12_4, hcz12_5, hcz12_6, hfz12_0, hfz12_1, hfz12_2, hfz12_3, hfz12_4, hfz12_5, hfz12_6⟩ := bk7 BK349.out; obtain ⟨Ao13, co13, eo13⟩ := Kd.R_slice HO342.out; subst eo13; obtain ⟨Ao14, co14, eo14⟩ := Kd.R_slice HO345.out; subst eo14))
 (try simp only [Act.put, List.setIfInBounds_toArray, List.set_cons_zero, List.set_cons_succ])
 go_cut [5] (fun v5 wc => ∃ (kq : Nat) (x5_2 : Bool), v5 = .bool x5_2 ∧ Aside0 (impl_Reset.j0 kq x5_2 a0_0 a0_1 l0_2 l0_3 a0_4 a0_5 a0_6 t338 t339 t340 t343 t346 t347 t348 = some (r1, r2, r3, r4, r5, r6, r7, r8)) ∧ Aside0 (kq ≤ k) ∧ Aside0 (Kd.R (Kd.int .i64) 3 wc w.heap.size (fun k_ => some k_ ≠ ((.slice Ao14 t343.length co14) : Value).ownBlock) (.slice Ao13 t340.length co13) t340) ∧ Aside0 (Kd.R (Kd.int .i64) 3 wc w.heap.size (fun k_ => some k_ ≠ ((.slice Ao13 t340.length co13) : Value).ownBlock) (.slice Ao14 t343.length co14) t343) ∧ Aside0 (wc.heap[gb336]? = some (.cells #[.bool a0_0, .bool a0_1, (.slice A0_2 l0_2.length c0_2), (.slice A0_3 l0_3.length c0_3), .int .i64 a0_4, .int .i64 a0_5, .int .i64 a0_6] 27 (0, 0))) ∧ Aside0 (wc.heap[gb337]? = some (.cells #[.bool false, .bool false, (.slice none 0 0), (.slice none 0 0), .int .i64 0, .int .i64 0, .int .i64 0] 27 (0, 0))) ∧ Aside0 (wc.heap[gb349]? = some (.cells #[.bool t338, .bool t339, (.slice Ao13 t340.length co13), (.slice Ao14 t343.length co14), .int .i64 t346, .int .i64 t347, .int .i64 t348] 27 (0, 0))) ∧ Aside0 (Below w.heap.size w wc))
 case first =>
  have H := HC3.out
  clear HC3
  by_cases c15 : a0_0 = true
  ·subst c15
   replace H : (impl_Reset.j0 k a0_1 true a0_1 l0_2 l0_3 a0_4 a0_5 a0_6 t338 t339 t340 t343 t346 t347 t348) = some (r1, r2, r3, r4, r5, r6, r7, r8) := by rw [if_pos rfl] at H; exact H
   have H' := am H
   clear H
   have hnb16 := NB336_337.out
   have hnc16 := NB337_336.out
   have hnb17 := NB336_349.out
   have hnc17 := NB349_336.out
   obtain ⟨hcz18_0, hcz18_1, hcz18_2, hcz18_3, hcz18_4, hcz18_5, hcz18_6, hfz18_0, hfz18_1, hfz18_2, hfz18_3, hfz18_4, hfz18_5, hfz18_6⟩ := bk7 BK336.out
   go_wp2
   go_meet
   case rel => exact ⟨_, (a0_1), rfx, H', ⟨by first | omega | exact Nat.le_refl _⟩, ⟨by (with_reducible repeat (first | apply Kd.R_alloc | apply Kd.R_drewN | apply Kd.R_drew)); exact Kd.R_mono (Kd.R_far (p := ⟨gb349, 6, none⟩) (Kd.R_far (p := ⟨gb349, 5, none⟩) (Kd.R_far (p := ⟨gb349, 4, none⟩) (Kd.R_far (p := ⟨gb349, 3, none⟩) (Kd.R_far (p := ⟨gb349, 2, none⟩) (Kd.R_far (p := ⟨gb349, 1, none⟩) (Kd.R_far (p := ⟨gb349, 0, none⟩) (Kd.R_types HO342.out BK349.out (by decide)) (fun _ hk => hk.2) (.bool t338)) (fun _ hk => hk.2) (.bool t339)) (fun _ hk => hk.2) (.slice Ao13 t340.length co13)) (fun _ hk => hk.2) (.slice Ao14 t343.length co14)) (fun _ hk => hk.2) (.int .i64 t346)) (fun _ hk => hk.2) (.int .i64 t347)) (fun _ hk => hk.2) (.int .i64 t348)) (fun _ hk => hk.1)⟩, ⟨by (with_reducible repeat (first | apply Kd.R_alloc | apply Kd.R_drewN | apply Kd.R_drew)); exact Kd.R_mono (Kd.R_far (p := ⟨gb349, 6, none⟩) (Kd.R_far (p := ⟨gb349, 5, none⟩) (Kd.R_far (p := ⟨gb349, 4, none⟩) (Kd.R_far (p := ⟨gb349, 3, none⟩) (Kd.R_far (p := ⟨gb349, 2, none⟩) (Kd.R_far (p := ⟨gb349, 1, none⟩) (Kd.R_far (p := ⟨gb349, 0, none⟩) (Kd.R_types HO345.out BK349.out (by decide)) (fun _ hk => hk.2) (.bool t338)) (fun _ hk => hk.2) (.bool t339)) (fun _ hk => hk.2) (.slice Ao13 t340.length co13)) (fun _ hk => hk.2) (.slice Ao14 t343.length co14)) (fun _ hk => hk.2) (.int .i64 t346)) (fun _ hk => hk.2) (.int .i64 t347)) (fun _ hk => hk.2) (.int .i64 t348)) (fun _ hk => hk.1)⟩, ⟨by refine blk_far ?_ NB336_349.out _; refine blk_far ?_ NB336_349.out _; refine blk_far ?_ NB336_349.out _; refine blk_far ?_ NB336_349.out _; refine blk_far ?_ NB336_349.out _; refine blk_far ?_ NB336_349.out _; refine blk_far ?_ NB336_349.out _; exact pkK BK336.out⟩, ⟨by refine blk_far ?_ NB337_349.out _; refine blk_far ?_ NB337_349.out _; refine blk_far ?_ NB337_349.out _; refine blk_far ?_ NB337_349.out _; refine blk_far ?_ NB337_349.out _; refine blk_far ?_ NB337_349.out _; refine blk_far ?_ NB337_349.out _; exact pkK BK337.out⟩, ⟨by refine blk_put (cs := #[.bool t338, .bool t339, .slice Ao13 t340.length co13, .slice Ao14 t343.length co14, .int .i64 t346, .int .i64 t347, .int .i64 0]) ?_ 6 _ rfl; refine blk_put (cs := #[.bool t338, .bool t339, .slice Ao13 t340.length co13, .slice Ao14 t343.length co14, .int .i64 t346, .int .i64 0, .int .i64 0]) ?_ 5 _ rfl; refine blk_put (cs := #[.bool t338, .bool t339, .slice Ao13 t340.length co13, .slice Ao14 t343.length co14, .int .i64 0, .int .i64 0, .int .i64 0]) ?_ 4 _ rfl; refine blk_put (cs := #[.bool t338, .bool t339, .slice Ao13 t340.length co13, .slice none 0 0, .int .i64 0, .int .i64 0, .int .i64 0]) ?_ 3 _ rfl; refine blk_put (cs := #[.bool t338, .bool t339, .slice none 0 0, .slice none 0 0, .int .i64 0, .int .i64 0, .int .i64 0]) ?_ 2 _ rfl; refine blk_put (cs := #[.bool t338, .bool false, .slice none 0 0, .slice none 0 0, .int .i64 0, .int .i64 0, .int .i64 0]) ?_ 1 _ rfl; refine blk_put (cs := #[.bool false, .bool false, .slice none 0 0, .slice none 0 0, .int .i64 0, .int .i64 0, .int .i64 0]) ?_ 0 _ rfl; exact pkK BK349.out⟩, ⟨pkW HB.out⟩⟩
  ·replace c15 := Bool.eq_false_iff.mpr c15
   subst c15
   replace H : (impl_Reset.j0 k false false a0_1 l0_2 l0_3 a0_4 a0_5 a0_6 t338 t339 t340 t343 t346 t347 t348) = some (r1, r2, r3, r4, r5, r6, r7, r8) := by rw [if_neg (show ¬ (false = true) by decide)] at H; exact H
   have H' := am H
   clear H
   have hnb19 := NB336_337.out
   have hnc19 := NB337_336.out
   have hnb20 := NB336_349.out
   have hnc20 := NB349_336.out
   obtain ⟨hcz21_0, hcz21_1, hcz21_2, hcz21_3, hcz21_4, hcz21_5, hcz21_6, hfz21_0, hfz21_1, hfz21_2, hfz21_3, hfz21_4, hfz21_5, hfz21_6⟩ := bk7 BK336.out
   go_wp2
   go_meet
   case rel => exact ⟨_, (false), rfx, H', ⟨by first | omega | exact Nat.le_refl _⟩, ⟨by (with_reducible repeat (first | apply Kd.R_alloc | apply Kd.R_drewN | apply Kd.R_drew)); exact Kd.R_mono (Kd.R_far (p := ⟨gb349, 6, none⟩) (Kd.R_far (p := ⟨gb349, 5, none⟩) (Kd.R_far (p := ⟨gb349, 4, none⟩) (Kd.R_far (p := ⟨gb349, 3, none⟩) (Kd.R_far (p := ⟨gb349, 2, none⟩) (Kd.R_far (p := ⟨gb349, 1, none⟩) (Kd.R_far (p := ⟨gb349, 0, none⟩) (Kd.R_types HO342.out BK349.out (by decide)) (fun _ hk => hk.2) (.bool t338)) (fun _ hk => hk.2) (.bool t339)) (fun _ hk => hk.2) (.slice Ao13 t340.length co13)) (fun _ hk => hk.2) (.slice Ao14 t343.length co14)) (fun _ hk => hk.2) (.int .i64 t346)) (fun _ hk => hk.2) (.int .i64 t347)) (fun _ hk => hk.2) (.int .i64 t348)) (fun _ hk => hk.1)⟩, ⟨by (with_reducible repeat (first | apply Kd.R_alloc | apply Kd.R_drewN | apply Kd.R_drew)); exact Kd.R_mono (Kd.R_far (p := ⟨gb349, 6, none⟩) (Kd.R_far (p := ⟨gb349, 5, none⟩) (Kd.R_far (p := ⟨gb349, 4, none⟩) (Kd.R_far (p := ⟨gb349, 3, none⟩) (Kd.R_far (p := ⟨gb349, 2, none⟩) (Kd.R_far (p := ⟨gb349, 1, none⟩) (Kd.R_far (p := ⟨gb349, 0, none⟩) (Kd.R_types HO345.out BK349.out (by decide)) (fun _ hk => hk.2) (.bool t338)) (fun _ hk => hk.2) (.bool t339)) (fun _ hk => hk.2) (.slice Ao13 t340.length co13)) (fun _ hk => hk.2) (.slice Ao14 t343.length co14)) (fun _ hk => hk.2) (.int .i64 t346)) (fun _ hk => hk.2) (.int .i64 t347)) (fun _ hk => hk.2) (.int .i64 t348)) (fun _ hk => hk.1)⟩, ⟨by refine blk_far ?_ NB336_349.out _; refine blk_far ?_ NB336_349.out _; refine blk_far ?_ NB336_349.out _; refine blk_far ?_ NB336_349.out _; refine blk_far ?_ NB336_349.out _; refine blk_far ?_ NB336_349.out _; refine blk_far ?_ NB336_349.out _; exact pkK BK336.out⟩, ⟨by refine blk_far ?_ NB337_349.out _; refine blk_far ?_ NB337_349.out _; refine blk_far ?_ NB337_349.out _; refine blk_far ?_ NB337_349.out _; refine blk_far ?_ NB337_349.out _; refine blk_far ?_ NB337_349.out _; refine blk_far ?_ NB337_349.out _; exact pkK BK337.out⟩, ⟨by refine blk_put (cs := #[.bool t338, .bool t339, .slice Ao13 t340.length co13, .slice Ao14 t343.length co14, .int .i64 t346, .int .i64 t347, .int .i64 0]) ?_ 6 _ rfl; refine blk_put (cs := #[.bool t338, .bool t339, .slice Ao13 t340.length co13, .slice Ao14 t343.length co14, .int .i64 t346, .int .i64 0, .int .i64 0]) ?_ 5 _ rfl; refine blk_put (cs := #[.bool t338, .bool t339, .slice Ao13 t340.length co13, .slice Ao14 t343.length co14, .int .i64 0, .int .i64 0, .int .i64 0]) ?_ 4 _ rfl; refine blk_put (cs := #[.bool t338, .bool t339, .slice Ao13 t340.length co13, .slice none 0 0, .int .i64 0, .int .i64 0, .int .i64 0]) ?_ 3 _ rfl; refine blk_put (cs := #[.bool t338, .bool t339, .slice none 0 0, .slice none 0 0, .int .i64 0, .int .i64 0, .int .i64 0]) ?_ 2 _ rfl; refine blk_put (cs := #[.bool t338, .bool false, .slice none 0 0, .slice none 0 0, .int .i64 0, .int .i64 0, .int .i64 0]) ?_ 1 _ rfl; refine blk_put (cs := #[.bool false, .bool false, .slice none 0 0, .slice none 0 0, .int .i64 0, .int .i64 0, .int .i64 0]) ?_ 0 _ rfl; exact pkK BK349.out⟩, ⟨pkW HB.out⟩⟩
 case rest =>
  clear HC3
  try clear c1
  try clear c2
  try clear p2
  try clear c6
  try clear c10
  try clear c11
  try clear c15
  try clear c16
  try clear c17
  try clear c19
  try clear c20
  try clear hcz12_0
  try clear hcz12_1
  try clear hcz12_2
  try clear hcz12_3
  try clear hcz12_4
  try clear hcz12_5
  try clear hcz12_6
  try clear hcz18_0
  try clear hcz18_1
  try clear hcz18_2
  try clear hcz18_3
  try clear hcz18_4
  try clear hcz18_5
  try clear hcz18_6
  try clear hcz21_0
  try clear hcz21_1
  try clear hcz21_2
  try clear hcz21_3
  try clear hcz21_4
  try clear hcz21_5
  try clear hcz21_6
  try clear hcz7_0
  try clear hcz7_1
  try clear hcz7_2
  try clear hcz7_3
  try clear hcz7_4
  try clear hcz7_5
  try clear hcz7_6
  try clear hfz12_0
  try clear hfz12_1
  try clear hfz12_2
  try clear hfz12_3
  try clear hfz12_4
  try clear hfz12_5
  try clear hfz12_6
  try clear hfz18_0
  try clear hfz18_1
  try clear hfz18_2
  try clear hfz18_3
  try clear hfz18_4
  try clear hfz18_5
  try clear hfz18_6
  try clear hfz21_0
  try clear hfz21_1
  try clear hfz21_2
  try clear hfz21_3
  try clear hfz21_4
  try clear hfz21_5
  try clear hfz21_6
  try clear hfz7_0
  try clear hfz7_1
  try clear hfz7_2
  try clear hfz7_3
  try clear hfz7_4
  try clear hfz7_5
  try clear hfz7_6
  obtain ⟨kq, x5_2, rfl, HA, HJ2, HO_350002, HO_350003, BK336, BK337, BK349, HB⟩ := hcut
  cases kq with
  | zero => exact absurd HA.out (by simp [impl_Reset.j0])
  | succ kj2 =>
   have H := HA.out
   clear HA
   simp only [impl_Reset.j0] at H
   replace H := Option.bind_eq_some_iff.mp H
   obtain ⟨t350, A220, H⟩ := H
   replace H : (if t350 = true then (if x5_2 = true then (impl_Reset.j1 kj2 x5_2 (a0_5 == 1000000000) t338 t339 t340 t343 t346 t347 t348) else (impl_Reset.j1 kj2 x5_2 false t338 t339 t340 t343 t346 t347 t348)) else (some (t338, t339, t340, t343, t346, t347, t348, 1))) = some (r1, r2, r3, r4, r5, r6, r7, r8) := H
   have A22 := am A220
   clear A220
   by_cases c23 : t350 = true
   ·subst c23
    replace H : (if x5_2 = true then (impl_Reset.j1 kj2 x5_2 (a0_5 == 1000000000) t338 t339 t340 t343 t346 t347 t348) else (impl_Reset.j1 kj2 x5_2 false t338 t339 t340 t343 t346 t347 t348)) = some (r1, r2, r3, r4, r5, r6, r7, r8) := by rw [if_pos rfl] at H; exact H
    have HC24 := am H
    clear H
    have hnb25 := NB336_337.out
    have hnc25 := NB337_336.out
    have hnb26 := NB336_349.out
    have hnc26 := NB349_336.out
    obtain ⟨hcz27_0, hcz27_1, hcz27_2, hcz27_3, hcz27_4, hcz27_5, hcz27_6, hfz27_0, hfz27_1, hfz27_2, hfz27_3, hfz27_4, hfz27_5, hfz27_6⟩ := bk7 BK336.out
    go_upto_region 5 with (first | ((with_reducible refine gate_callee (f := 17) rfl ?_); refine goesL_ (some 16) rfl rfl Try.func17 (by kernel_rfl) rfl #[.agg #[.bool a0_0, .bool a0_1, .slice A0_2 l0_2.length c0_2, .slice A0_3 l0_3.length c0_3, .int .i64 a0_4, .int .i64 a0_5, .int .i64 a0_6]] rfl mpx ?_; (with_reducible refine (impl_EventOk.calls kj2 a0_0 a0_1 _ _ l0_2 _ _ l0_3 a0_4 a0_5 a0_6 true _ ?side1 ?side2 ?side3 ?side4 A22.out).mono ?_); (case side1 => exact pkC (Kd.C_below HR0_2.out HB.out)); (case side2 => exact HC0_2.out); (case side3 => exact pkC (Kd.C_below HR0_3.out HB.out)); (case side4 => exact HC0_3.out); rintro e w28 ⟨rfl, hb⟩; refine ⟨_, rfl, ?_⟩; replace HO_350002 := rbl HO_350002 hb; replace HO_350003 := rbl HO_350003 hb; replace BK336 := bbk BK336 hb; replace BK337 := bbk BK337 hb; replace BK349 := bbk BK349 hb; replace HB := bst HB hb; (try clear hb)))
    (try simp only [Act.put, List.setIfInBounds_toArray, List.set_cons_zero, List.set_cons_succ])
    go_cut [19] (fun v19 wc => ∃ (kq : Nat) (x19_23 : Bool), v19 = .bool x19_23 ∧ Aside0 (impl_Reset.j1 kq x5_2 x19_23 t338 t339 t340 t343 t346 t347 t348 = some (r1, r2, r3, r4, r5, r6, r7, r8)) ∧ Aside0 (kq ≤ kj2) ∧ Aside0 (Kd.R (Kd.int .i64) 3 wc w.heap.size (fun k_ => some k_ ≠ ((.slice Ao14 t343.length co14) : Value).ownBlock) (.slice Ao13 t340.length co13) t340) ∧ Aside0 (Kd.R (Kd.int .i64) 3 wc w.heap.size (fun k_ => some k_ ≠ ((.slice Ao13 t340.length co13) : Value).ownBlock) (.slice Ao14 t343.length co14) t343) ∧ Aside0 (wc.heap[gb336]? = some (.cells #[.bool a0_0, .bool a0_1, (.slice A0_2 l0_2.length c0_2), (.slice A0_3 l0_3.length c0_3), .int .i64 a0_4, .int .i64 a0_5, .int .i64 a0_6] 27 (0, 0))) ∧ Aside0 (wc.heap[gb337]? = some (.cells #[.bool false, .bool false, (.slice none 0 0), (.slice none 0 0), .int .i64 0, .int .i64 0, .int .i64 0] 27 (0, 0))) ∧ Aside0 (wc.heap[gb349]? = some (.cells #[.bool t338, .bool t339, (.slice Ao13 t340.length co13), (.slice Ao14 t343.length co14), .int .i64 t346, .int .i64 t347, .int .i64 t348] 27 (0, 0))) ∧ Aside0 (Below w.heap.size w wc))
    case first =>
     have H := HC24.out
     clear HC24
     by_cases c29 : x5_2 = true
     ·subst c29
      replace H : (impl_Reset.j1 kj2 true (a0_5 == 1000000000) t338 t339 t340 t343 t346 t347 t348) = some (r1, r2, r3, r4, r5, r6, r7, r8) := by rw [if_pos rfl] at H; exact H
      have H' := am H
      clear H
      have hnb30 := NB336_337.out
      have hnc30 := NB337_336.out
      have hnb31 := NB336_349.out
      have hnc31 := NB349_336.out
      obtain ⟨hcz32_0, hcz32_1, hcz32_2, hcz32_3, hcz32_4, hcz32_5, hcz32_6, hfz32_0, hfz32_1, hfz32_2, hfz32_3, hfz32_4, hfz32_5, hfz32_6⟩ := bk7 BK336.out
      go_wp2
      go_meet
      case rel => exact ⟨_, ((a0_5 == 1000000000)), rfx, H', ⟨by have := HJ2.out; first | omega | exact Nat.le_refl _⟩, ⟨pkR HO_350002.out⟩, ⟨pkR HO_350003.out⟩, ⟨pkK BK336.out⟩, ⟨pkK BK337.out⟩, ⟨pkK BK349.out⟩, ⟨pkW HB.out⟩⟩
     ·replace c29 := Bool.eq_false_iff.mpr c29
      subst c29
      replace H : (impl_Reset.j1 kj2 false false t338 t339 t340 t343 t346 t347 t348) = some (r1, r2, r3, r4, r5, r6, r7, r8) := by rw [if_neg (show ¬ (false = true) by decide)] at H; exact H
      have H' := am H
      clear H
      go_wp2
      go_meet
      case rel => exact ⟨_, (false), rfx, H', ⟨by have := HJ2.out; first | omega | exact Nat.le_refl _⟩, ⟨pkR HO_350002.out⟩, ⟨pkR HO_350003.out⟩, ⟨pkK BK336.out⟩, ⟨pkK BK337.out⟩, ⟨pkK BK349.out⟩, ⟨pkW HB.out⟩⟩
    case rest =>
     clear HC24
     try clear c1
     try clear c2
     try clear p2
     try clear c3
     try clear c6
     try clear c10
     try clear c11
     try clear c15
     try clear c16
     try clear c17
     try clear c19
     try clear c20
     try clear c23
     try clear c25
     try clear c26
     try clear c29
     try clear c30
     try clear c31
     try clear hcz12_0
     try clear hcz12_1
     try clear hcz12_2
     try clear hcz12_3
     try clear hcz12_4
     try clear hcz12_5
     try clear hcz12_6
     try clear hcz18_0
     try clear hcz18_1
     try clear hcz18_2
     try clear hcz18_3
     try clear hcz18_4
     try clear hcz18_5
     try clear hcz18_6
     try clear hcz21_0
     try clear hcz21_1
     try clear hcz21_2
     try clear hcz21_3
     try clear hcz21_4
     try clear hcz21_5
     try clear hcz21_6
     try clear hcz27_0
     try clear hcz27_1
     try clear hcz27_2
     try clear hcz27_3
     try clear hcz27_4
     try clear hcz27_5
     try clear hcz27_6
     try clear hcz32_0
     try clear hcz32_1
     try clear hcz32_2
     try clear hcz32_3
     try clear hcz32_4
     try clear hcz32_5
     try clear hcz32_6
     try clear hcz7_0
     try clear hcz7_1
     try clear hcz7_2
     try clear hcz7_3
     try clear hcz7_4
     try clear hcz7_5
     try clear hcz7_6
     try clear hfz12_0
     try clear hfz12_1
     try clear hfz12_2
     try clear hfz12_3
     try clear hfz12_4
     try clear hfz12_5
     try clear hfz12_6
     try clear hfz18_0
     try clear hfz18_1
     try clear hfz18_2
     try clear hfz18_3
     try clear hfz18_4
     try clear hfz18_5
     try clear hfz18_6
     try clear hfz21_0
     try clear hfz21_1
     try clear hfz21_2
     try clear hfz21_3
     try clear hfz21_4
     try clear hfz21_5
     try clear hfz21_6
     try clear hfz27_0
     try clear hfz27_1
     try clear hfz27_2
     try clear hfz27_3
     try clear hfz27_4
     try clear hfz27_5
     try clear hfz27_6
     try clear hfz32_0
     try clear hfz32_1
     try clear hfz32_2
     try clear hfz32_3
     try clear hfz32_4
     try clear hfz32_5
     try clear hfz32_6
     try clear hfz7_0
     try clear hfz7_1
     try clear hfz7_2
     try clear hfz7_3
     try clear hfz7_4
     try clear hfz7_5
     try clear hfz7_6
     try clear p2
     obtain ⟨kq, x19_23, rfl, HA, HJ23, HO_350002, HO_350003, BK336, BK337, BK349, HB⟩ := hcut
     cases kq with
     | zero => exact absurd HA.out (by simp [impl_Reset.j1])
     | succ kj23 =>
      have H := HA.out
      clear HA
      simp only [impl_Reset.j1] at H
      by_cases c33 : x19_23 = true
      ·subst c33
       replace H : (some (t338, t339, t340, t343, t346, t347, t348, 2)) = some (r1, r2, r3, r4, r5, r6, r7, r8) := by rw [if_pos rfl] at H; exact H
       simp only [Option.some.injEq, Prod.mk.injEq] at H
       obtain ⟨rfl, rfl, rfl, rfl, rfl, rfl, rfl, rfl⟩ := H
       have hnb34 := NB349_336.out
       have hnc34 := NB336_349.out
       have hnb35 := NB349_337.out
       have hnc35 := NB337_349.out
       obtain ⟨hcz36_0, hcz36_1, hcz36_2, hcz36_3, hcz36_4, hcz36_5, hcz36_6, hfz36_0, hfz36_1, hfz36_2, hfz36_3, hfz36_4, hfz36_5, hfz36_6⟩ := bk7 BK349.out
       have hnb37 := NB337_336.out
       have hnc37 := NB336_337.out
       obtain ⟨hcz38_0, hcz38_1, hcz38_2, hcz38_3, hcz38_4, hcz38_5, hcz38_6, hfz38_0, hfz38_1, hfz38_2, hfz38_3, hfz38_4, hfz38_5, hfz38_6⟩ := bk7 BK337.out
       go_wp2
       refine bodyPost_ret (results_ct rfl _ _ gb337 27 #[.bool t338, .bool t339, .slice Ao13 t340.length co13, .slice Ao14 t343.length co14, .int .i64 t346, .int .i64 t347, .int .i64 t348] (0, 0) _ rfl (by refine blk_put (cs := #[.bool t338, .bool t339, .slice Ao13 t340.length co13, .slice Ao14 t343.length co14, .int .i64 t346, .int .i64 t347, .int .i64 0]) ?_ 6 _ rfl; refine blk_put (cs := #[.bool t338, .bool t339, .slice Ao13 t340.length co13, .slice Ao14 t343.length co14, .int .i64 t346, .int .i64 0, .int .i64 0]) ?_ 5 _ rfl; refine blk_put (cs := #[.bool t338, .bool t339, .slice Ao13 t340.length co13, .slice Ao14 t343.length co14, .int .i64 0, .int .i64 0, .int .i64 0]) ?_ 4 _ rfl; refine blk_put (cs := #[.bool t338, .bool t339, .slice Ao13 t340.length co13, .slice none 0 0, .int .i64 0, .int .i64 0, .int .i64 0]) ?_ 3 _ rfl; refine blk_put (cs := #[.bool t338, .bool t339, .slice none 0 0, .slice none 0 0, .int .i64 0, .int .i64 0, .int .i64 0]) ?_ 2 _ rfl; refine blk_put (cs := #[.bool t338, .bool false, .slice none 0 0, .slice none 0 0, .int .i64 0, .int .i64 0, .int .i64 0]) ?_ 1 _ rfl; refine blk_put (cs := #[.bool false, .bool false, .slice none 0 0, .slice none 0 0, .int .i64 0, .int .i64 0, .int .i64 0]) ?_ 0 _ rfl; exact pkK BK337.out) Try.underlying27 rfl (by kernel_rfl)) rfl ?_
       exact ⟨_, _, rfe, by (with_reducible repeat (first | apply Kd.R_alloc | apply Kd.R_drewN | apply Kd.R_drew)); exact Kd.R_mono (Kd.R_far (p := ⟨gb337, 6, none⟩) (Kd.R_far (p := ⟨gb337, 5, none⟩) (Kd.R_far (p := ⟨gb337, 4, none⟩) (Kd.R_far (p := ⟨gb337, 3, none⟩) (Kd.R_far (p := ⟨gb337, 2, none⟩) (Kd.R_far (p := ⟨gb337, 1, none⟩) (Kd.R_far (p := ⟨gb337, 0, none⟩) (Kd.R_types HO_350002.out BK337.out (by decide)) (fun _ hk => hk.2) (.bool t338)) (fun _ hk => hk.2) (.bool t339)) (fun _ hk => hk.2) (.slice Ao13 t340.length co13)) (fun _ hk => hk.2) (.slice Ao14 t343.length co14)) (fun _ hk => hk.2) (.int .i64 t346)) (fun _ hk => hk.2) (.int .i64 t347)) (fun _ hk => hk.2) (.int .i64 t348)) (fun _ hk => hk.1), by (with_reducible repeat (first | apply Kd.R_alloc | apply Kd.R_drewN | apply Kd.R_drew)); exact Kd.R_mono (Kd.R_far (p := ⟨gb337, 6, none⟩) (Kd.R_far (p := ⟨gb337, 5, none⟩) (Kd.R_far (p := ⟨gb337, 4, none⟩) (Kd.R_far (p := ⟨gb337, 3, none⟩) (Kd.R_far (p := ⟨gb337, 2, none⟩) (Kd.R_far (p := ⟨gb337, 1, none⟩) (Kd.R_far (p := ⟨gb337, 0, none⟩) (Kd.R_types HO_350003.out BK337.out (by decide)) (fun _ hk => hk.2) (.bool t338)) (fun _ hk => hk.2) (.bool t339)) (fun _ hk => hk.2) (.slice Ao13 t340.length co13)) (fun _ hk => hk.2) (.slice Ao14 t343.length co14)) (fun _ hk => hk.2) (.int .i64 t346)) (fun _ hk => hk.2) (.int .i64 t347)) (fun _ hk => hk.2) (.int .i64 t348)) (fun _ hk => hk.1), pkW HB.out⟩
      ·replace c33 := Bool.eq_false_iff.mpr c33
       subst c33
       replace H : (if x5_2 = true then (some (t338, false, t340, t343, t346, wrap64 (t347 + 1), t348, 0)) else (some (t338, false, t340, t343, t346, t347, t348, 0))) = some (r1, r2, r3, r4, r5, r6, r7, r8) := by rw [if_neg (show ¬ (false = true) by decide)] at H; exact H
       by_cases c39 : x5_2 = true
       ·subst c39
        replace H : (some (t338, false, t340, t343, t346, wrap64 (t347 + 1), t348, 0)) = some (r1, r2, r3, r4, r5, r6, r7, r8) := by rw [if_pos rfl] at H; exact H
        simp only [Option.some.injEq, Prod.mk.injEq] at H
        obtain ⟨rfl, rfl, rfl, rfl, rfl, rfl, rfl, rfl⟩ := H
        have hnb40 := NB349_336.out
        have hnc40 := NB336_349.out
        have hnb41 := NB349_337.out
        have hnc41 := NB337_349.out
        obtain ⟨hcz42_0, hcz42_1, hcz42_2, hcz42_3, hcz42_4, hcz42_5, hcz42_6, hfz42_0, hfz42_1, hfz42_2, hfz42_3, hfz42_4, hfz42_5, hfz42_6⟩ := bk7 BK349.out
        have hnb43 := NB337_336.out
        have hnc43 := NB336_337.out
        obtain ⟨hcz44_0, hcz44_1, hcz44_2, hcz44_3, hcz44_4, hcz44_5, hcz44_6, hfz44_0, hfz44_1, hfz44_2, hfz44_3, hfz44_4, hfz44_5, hfz44_6⟩ := bk7 BK337.out
        go_wp2
        refine bodyPost_ret (results_ct rfl _ _ gb337 27 #[.bool t338, .bool false, .slice Ao13 t340.length co13, .slice Ao14 t343.length co14, .int .i64 t346, .int .i64 (wrap64 (t347 + 1)), .int .i64 t348] (0, 0) _ rfl (by refine blk_put (cs := #[.bool t338, .bool false, .slice Ao13 t340.length co13, .slice Ao14 t343.length co14, .int .i64 t346, .int .i64 (wrap64 (t347 + 1)), .int .i64 0]) ?_ 6 _ rfl; refine blk_put (cs := #[.bool t338, .bool false, .slice Ao13 t340.length co13, .slice Ao14 t343.length co14, .int .i64 t346, .int .i64 0, .int .i64 0]) ?_ 5 _ rfl; refine blk_put (cs := #[.bool t338, .bool false, .slice Ao13 t340.length co13, .slice Ao14 t343.length co14, .int .i64 0, .int .i64 0, .int .i64 0]) ?_ 4 _ rfl; refine blk_put (cs := #[.bool t338, .bool false, .slice Ao13 t340.length co13, .slice none 0 0, .int .i64 0, .int .i64 0, .int .i64 0]) ?_ 3 _ rfl; refine blk_put (cs := #[.bool t338, .bool false, .slice none 0 0, .slice none 0 0, .int .i64 0, .int .i64 0, .int .i64 0]) ?_ 2 _ rfl; refine blk_put (cs := #[.bool t338, .bool false, .slice none 0 0, .slice none 0 0, .int .i64 0, .int .i64 0, .int .i64 0]) ?_ 1 _ rfl; refine blk_put (cs := #[.bool false, .bool false, .slice none 0 0, .slice none 0 0, .int .i64 0, .int .i64 0, .int .i64 0]) ?_ 0 _ rfl; refine blk_far ?_ NB337_349.out _; refine blk_far ?_ NB337_349.out _; exact pkK BK337.out) Try.underlying27 rfl (by kernel_rfl)) rfl ?_
        exact ⟨_, _, rfe, by (with_reducible repeat (first | apply Kd.R_alloc | apply Kd.R_drewN | apply Kd.R_drew)); exact Kd.R_mono (Kd.R_far (p := ⟨gb337, 6, none⟩) (Kd.R_far (p := ⟨gb337, 5, none⟩) (Kd.R_far (p := ⟨gb337, 4, none⟩) (Kd.R_far (p := ⟨gb337, 3, none⟩) (Kd.R_far (p := ⟨gb337, 2, none⟩) (Kd.R_far (p := ⟨gb337, 1, none⟩) (Kd.R_far (p := ⟨gb337, 0, none⟩) (Kd.R_far (p := ⟨gb349, 1, none⟩) (Kd.R_far (p := ⟨gb349, 5, none⟩) (Kd.R_types (Kd.R_types HO_350002.out BK349.out (by decide)) BK337.out (by decide)) (fun _ hk => hk.1.2) (.int .i64 (wrap64 (t347 + 1)))) (fun _ hk => hk.1.2) (.bool false)) (fun _ hk => hk.2) (.bool t338)) (fun _ hk => hk.2) (.bool false)) (fun _ hk => hk.2) (.slice Ao13 t340.length co13)) (fun _ hk => hk.2) (.slice Ao14 t343.length co14)) (fun _ hk => hk.2) (.int .i64 t346)) (fun _ hk => hk.2) (.int .i64 (wrap64 (t347 + 1)))) (fun _ hk => hk.2) (.int .i64 t348)) (fun _ hk => hk.1.1), by (with_reducible repeat (first | apply Kd.R_alloc | apply Kd.R_drewN | apply Kd.R_drew)); exact Kd.R_mono (Kd.R_far (p := ⟨gb337, 6, none⟩) (Kd.R_far (p := ⟨gb337, 5, none⟩) (Kd.R_far (p := ⟨gb337, 4, none⟩) (Kd.R_far (p := ⟨gb337, 3, none⟩) (Kd.R_far (p := ⟨gb337, 2, none⟩) (Kd.R_far (p := ⟨gb337, 1, none⟩) (Kd.R_far (p := ⟨gb337, 0, none⟩) (Kd.R_far (p := ⟨gb349, 1, none⟩) (Kd.R_far (p := ⟨gb349, 5, none⟩) (Kd.R_types (Kd.R_types HO_350003.out BK349.out (by decide)) BK337.out (by decide)) (fun _ hk => hk.1.2) (.int .i64 (wrap64 (t347 + 1)))) (fun _ hk => hk.1.2) (.bool false)) (fun _ hk => hk.2) (.bool t338)) (fun _ hk => hk.2) (.bool false)) (fun _ hk => hk.2) (.slice Ao13 t340.length co13)) (fun _ hk => hk.2) (.slice Ao14 t343.length co14)) (fun _ hk => hk.2) (.int .i64 t346)) (fun _ hk => hk.2) (.int .i64 (wrap64 (t347 + 1)))) (fun _ hk => hk.2) (.int .i64 t348)) (fun _ hk => hk.1.1), pkW HB.out⟩
       ·replace c39 := Bool.eq_false_iff.mpr c39
        subst c39
        replace H : (some (t338, false, t340, t343, t346, t347, t348, 0)) = some (r1, r2, r3, r4, r5, r6, r7, r8) := by rw [if_neg (show ¬ (false = true) by decide)] at H; exact H
        simp only [Option.some.injEq, Prod.mk.injEq] at H
        obtain ⟨rfl, rfl, rfl, rfl, rfl, rfl, rfl, rfl⟩ := H
        have hnb45 := NB349_336.out
        have hnc45 := NB336_349.out
        have hnb46 := NB349_337.out
        have hnc46 := NB337_349.out
        obtain ⟨hcz47_0, hcz47_1, hcz47_2, hcz47_3, hcz47_4, hcz47_5, hcz47_6, hfz47_0, hfz47_1, hfz47_2, hfz47_3, hfz47_4, hfz47_5, hfz47_6⟩ := bk7 BK349.out
        have hnb48 := NB337_336.out
        have hnc48 := NB336_337.out
        obtain ⟨hcz49_0, hcz49_1, hcz49_2, hcz49_3, hcz49_4, hcz49_5, hcz49_6, hfz49_0, hfz49_1, hfz49_2, hfz49_3, hfz49_4, hfz49_5, hfz49_6⟩ := bk7 BK337.out
        go_wp2
        refine bodyPost_ret (results_ct rfl _ _ gb337 27 #[.bool t338, .bool false, .slice Ao13 t340.length co13, .slice Ao14 t343.length co14, .int .i64 t346, .int .i64 t347, .int .i64 t348] (0, 0) _ rfl (by refine blk_put (cs := #[.bool t338, .bool false, .slice Ao13 t340.length co13, .slice Ao14 t343.length co14, .int .i64 t346, .int .i64 t347, .int .i64 0]) ?_ 6 _ rfl; refine blk_put (cs := #[.bool t338, .bool false, .slice Ao13 t340.length co13, .slice Ao14 t343.length co14, .int .i64 t346, .int .i64 0, .int .i64 0]) ?_ 5 _ rfl; refine blk_put (cs := #[.bool t338, .bool false, .slice Ao13 t340.length co13, .slice Ao14 t343.length co14, .int .i64 0, .int .i64 0, .int .i64 0]) ?_ 4 _ rfl; refine blk_put (cs := #[.bool t338, .bool false, .slice Ao13 t340.length co13, .slice none 0 0, .int .i64 0, .int .i64 0, .int .i64 0]) ?_ 3 _ rfl; refine blk_put (cs := #[.bool t338, .bool false, .slice none 0 0, .slice none 0 0, .int .i64 0, .int .i64 0, .int .i64 0]) ?_ 2 _ rfl; refine blk_put (cs := #[.bool t338, .bool false, .slice none 0 0, .slice none 0 0, .int .i64 0, .int .i64 0, .int .i64 0]) ?_ 1 _ rfl; refine blk_put (cs := #[.bool false, .bool false, .slice none 0 0, .slice none 0 0, .int .i64 0, .int .i64 0, .int .i64 0]) ?_ 0 _ rfl; refine blk_far ?_ NB337_349.out _; exact pkK BK337.out) Try.underlying27 rfl (by kernel_rfl)) rfl ?_
        exact ⟨_, _, rfe, by (with_reducible repeat (first | apply Kd.R_alloc | apply Kd.R_drewN | apply Kd.R_drew)); exact Kd.R_mono (Kd.R_far (p := ⟨gb337, 6, none⟩) (Kd.R_far (p := ⟨gb337, 5, none⟩) (Kd.R_far (p := ⟨gb337, 4, none⟩) (Kd.R_far (p := ⟨gb337, 3, none⟩) (Kd.R_far (p := ⟨gb337, 2, none⟩) (Kd.R_far (p := ⟨gb337, 1, none⟩) (Kd.R_far (p := ⟨gb337, 0, none⟩) (Kd.R_far (p := ⟨gb349, 1, none⟩) (Kd.R_types (Kd.R_types HO_350002.out BK349.out (by decide)) BK337.out (by decide)) (fun _ hk => hk.1.2) (.bool false)) (fun _ hk => hk.2) (.bool t338)) (fun _ hk => hk.2) (.bool false)) (fun _ hk => hk.2) (.slice Ao13 t340.length co13)) (fun _ hk => hk.2) (.slice Ao14 t343.length co14)) (fun _ hk => hk.2) (.int .i64 t346)) (fun _ hk => hk.2) (.int .i64 t347)) (fun _ hk => hk.2) (.int .i64 t348)) (fun _ hk => hk.1.1), by (with_reducible repeat (first | apply Kd.R_alloc | apply Kd.R_drewN | apply Kd.R_drew)); exact Kd.R_mono (Kd.R_far (p := ⟨gb337, 6, none⟩) (Kd.R_far (p := ⟨gb337, 5, none⟩) (Kd.R_far (p := ⟨gb337, 4, none⟩) (Kd.R_far (p := ⟨gb337, 3, none⟩) (Kd.R_far (p := ⟨gb337, 2, none⟩) (Kd.R_far (p := ⟨gb337, 1, none⟩) (Kd.R_far (p := ⟨gb337, 0, none⟩) (Kd.R_far (p := ⟨gb349, 1, none⟩) (Kd.R_types (Kd.R_types HO_350003.out BK349.out (by decide)) BK337.out (by decide)) (fun _ hk => hk.1.2) (.bool false)) (fun _ hk => hk.2) (.bool t338)) (fun _ hk => hk.2) (.bool false)) (fun _ hk => hk.2) (.slice Ao13 t340.length co13)) (fun _ hk => hk.2) (.slice Ao14 t343.length co14)) (fun _ hk => hk.2) (.int .i64 t346)) (fun _ hk => hk.2) (.int .i64 t347)) (fun _ hk => hk.2) (.int .i64 t348)) (fun _ hk => hk.1.1), pkW HB.out⟩
   ·replace c23 := Bool.eq_false_iff.mpr c23
    subst c23
    replace H : (some (t338, t339, t340, t343, t346, t347, t348, 1)) = some (r1, r2, r3, r4, r5, r6, r7, r8) := by rw [if_neg (show ¬ (false = true) by decide)] at H; exact H
    simp only [Option.some.injEq, Prod.mk.injEq] at H
    obtain ⟨rfl, rfl, rfl, rfl, rfl, rfl, rfl, rfl⟩ := H
    have hnb50 := NB336_337.out
    have hnc50 := NB337_336.out
    have hnb51 := NB336_349.out
    have hnc51 := NB349_336.out
    obtain ⟨hcz52_0, hcz52_1, hcz52_2, hcz52_3, hcz52_4, hcz52_5, hcz52_6, hfz52_0, hfz52_1, hfz52_2, hfz52_3, hfz52_4, hfz52_5, hfz52_6⟩ := bk7 BK336.out
    go_wp2_with (first | ((with_reducible refine gate_callee (f := 17) rfl ?_); refine goesL_ (some 16) rfl rfl Try.func17 (by kernel_rfl) rfl #[.agg #[.bool a0_0, .bool a0_1, .slice A0_2 l0_2.length c0_2, .slice A0_3 l0_3.length c0_3, .int .i64 a0_4, .int .i64 a0_5, .int .i64 a0_6]] rfl mpx ?_; (with_reducible refine (impl_EventOk.calls kj2 a0_0 a0_1 _ _ l0_2 _ _ l0_3 a0_4 a0_5 a0_6 false _ ?side1 ?side2 ?side3 ?side4 A22.out).mono ?_); (case side1 => exact pkC (Kd.C_below HR0_2.out HB.out)); (case side2 => exact HC0_2.out); (case side3 => exact pkC (Kd.C_below HR0_3.out HB.out)); (case side4 => exact HC0_3.out); rintro e w53 ⟨rfl, hb⟩; refine ⟨_, rfl, ?_⟩; replace HO_350002 := rbl HO_350002 hb; replace HO_350003 := rbl HO_350003 hb; replace BK336 := bbk BK336 hb; replace BK337 := bbk BK337 hb; replace BK349 := bbk BK349 hb; replace HB := bst HB hb; (try clear hb); have hnb54 := NB349_337.out; have hnc54 := NB337_349.out; obtain ⟨hcz55_0, hcz55_1, hcz55_2, hcz55_3, hcz55_4, hcz55_5, hcz55_6, hfz55_0, hfz55_1, hfz55_2, hfz55_3, hfz55_4, hfz55_5, hfz55_6⟩ := bk7 BK349.out; obtain ⟨hcz56_0, hcz56_1, hcz56_2, hcz56_3, hcz56_4, hcz56_5, hcz56_6, hfz56_0, hfz56_1, hfz56_2, hfz56_3, hfz56_4, hfz56_5, hfz56_6⟩ := bk7 BK337.out))
    refine bodyPost_ret (results_ct rfl _ _ gb337 27 #[.bool t338, .bool t339, .slice Ao13 t340.length co13, .slice Ao14 t343.length co14, .int .i64 t346, .int .i64 t347, .int .i64 t348] (0, 0) _ rfl (by refine blk_put (cs := #[.bool t338, .bool t339, .slice Ao13 t340.length co13, .slice Ao14 t343.length co14, .int .i64 t346, .int .i64 t347, .int .i64 0]) ?_ 6 _ rfl; refine blk_put (cs := #[.bool t338, .bool t339, .slice Ao13 t340.length co13, .slice Ao14 t343.length co14, .int .i64 t346, .int .i64 0, .int .i64 0]) ?_ 5 _ rfl; refine blk_put (cs := #[.bool t338, .bool t339, .slice Ao13 t340.length co13, .slice Ao14 t343.length co14, .int .i64 0, .int .i64 0, .int .i64 0]) ?_ 4 _ rfl; refine blk_put (cs := #[.bool t338, .bool t339, .slice Ao13 t340.length co13, .slice none 0 0, .int .i64 0, .int .i64 0, .int .i64 0]) ?_ 3 _ rfl; refine blk_put (cs := #[.bool t338, .bool t339, .slice none 0 0, .slice none 0 0, .int .i64 0, .int .i64 0, .int .i64 0]) ?_ 2 _ rfl; refine blk_put (cs := #[.bool t338, .bool false, .slice none 0 0, .slice none 0 0, .int .i64 0, .int .i64 0, .int .i64 0]) ?_ 1 _ rfl; refine blk_put (cs := #[.bool false, .bool false, .slice none 0 0, .slice none 0 0, .int .i64 0, .int .i64 0, .int .i64 0]) ?_ 0 _ rfl; exact pkK BK337.out) Try.underlying27 rfl (by kernel_rfl)) rfl ?_
    exact ⟨_, _, rfe, by (with_reducible repeat (first | apply Kd.R_alloc | apply Kd.R_drewN | apply Kd.R_drew)); exact Kd.R_mono (Kd.R_far (p := ⟨gb337, 6, none⟩) (Kd.R_far (p := ⟨gb337, 5, none⟩) (Kd.R_far (p := ⟨gb337, 4, none⟩) (Kd.R_far (p := ⟨gb337, 3, none⟩) (Kd.R_far (p := ⟨gb337, 2, none⟩) (Kd.R_far (p := ⟨gb337, 1, none⟩) (Kd.R_far (p := ⟨gb337, 0, none⟩) (Kd.R_types HO_350002.out BK337.out (by decide)) (fun _ hk => hk.2) (.bool t338)) (fun _ hk => hk.2) (.bool t339)) (fun _ hk => hk.2) (.slice Ao13 t340.length co13)) (fun _ hk => hk.2) (.slice Ao14 t343.length co14)) (fun _ hk => hk.2) (.int .i64 t346)) (fun _ hk => hk.2) (.int .i64 t347)) (fun _ hk => hk.2) (.int .i64 t348)) (fun _ hk => hk.1), by (with_reducible repeat (first | apply Kd.R_alloc | apply Kd.R_drewN | apply Kd.R_drew)); exact Kd.R_mono (Kd.R_far (p := ⟨gb337, 6, none⟩) (Kd.R_far (p := ⟨gb337, 5, none⟩) (Kd.R_far (p := ⟨gb337, 4, none⟩) (Kd.R_far (p := ⟨gb337, 3, none⟩) (Kd.R_far (p := ⟨gb337, 2, none⟩) (Kd.R_far (p := ⟨gb337, 1, none⟩) (Kd.R_far (p := ⟨gb337, 0, none⟩) (Kd.R_types HO_350003.out BK337.out (by decide)) (fun _ hk => hk.2) (.bool t338)) (fun _ hk => hk.2) (.bool t339)) (fun _ hk => hk.2) (.slice Ao13 t340.length co13)) (fun _ hk => hk.2) (.slice Ao14 t343.length co14)) (fun _ hk => hk.2) (.int .i64 t346)) (fun _ hk => hk.2) (.int .i64 t347)) (fun _ hk => hk.2) (.int .i64 t348)) (fun _ hk => hk.1), pkW HB.out⟩
end Go.Proofs.Ytdagpmnadapbjaa.Z
