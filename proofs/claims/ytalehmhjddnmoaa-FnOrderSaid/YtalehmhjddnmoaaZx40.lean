/- The Go functions laws_FnOrder as Lean functions, each with a proof that its code comes to just these answers; conditions: those of each theorem. -/
import Derived.Test.YtalehmhjddnmoaaZx0
import Derived.Test.YtalehmhjddnmoaaZx1
import Derived.Test.YtalehmhjddnmoaaZx4
import Derived.Test.YtalehmhjddnmoaaZx11
import Derived.Test.YtalehmhjddnmoaaZx14
import Derived.Test.YtalehmhjddnmoaaZx20
import Derived.Test.YtalehmhjddnmoaaZx27
namespace Go.Proofs.Ytalehmhjddnmoaa.Z
open Go.RowKit Go.Proofs.YtalehmhjddnmoaaW.PrintWords Go.Proofs.YtalehmhjddnmoaaW.PrintLast Go.Proofs.YtalehmhjddnmoaaW.PrintMore
attribute [local go_sem] max2_int min2_int max_two min_two max_three min_three max_four min_four   -- for this text's walks alone
set_option linter.unusedVariables false
set_option linter.unusedSimpArgs false
attribute [local go_sem high] eqA27
mutual
def laws_FnOrder.j0 : Nat → Bool → Int → Int → ByteArray → Int → Int → ByteArray → Int → Int → ByteArray → Option (Bool)
 | 0, _, _, _, _, _, _, _, _, _, _ => none
 | k + 1, x30, x310000, x310001, x310002, x311000, x311001, x311002, x325000, x325001, x325002 => if x30 = true then ((impl_MsgLess.f k x310000 x310001 x310002 x311000 x311001 x311002).bind fun t327 => (if t327 = true then (some false) else ((impl_MsgLess.f k x311000 x311001 x311002 x310000 x310001 x310002).bind fun t328 => (some (!t328))))) else ((impl_MsgLess.f k x310000 x310001 x310002 x311000 x311001 x311002).bind fun t329 => ((impl_MsgLess.f k x311000 x311001 x311002 x310000 x310001 x310002).bind fun t330 => (if t329 = true then (if t330 = true then (laws_FnOrder.j1 k t329 true x310000 x310001 x310002 x311000 x311001 x311002 x325000 x325001 x325002) else ((spec_MsgLess.f k x310000 x310001 x310002 x311000 x311001 x311002).bind fun t331 => (if (t329 != t331) = true then (laws_FnOrder.j1 k t329 true x310000 x310001 x310002 x311000 x311001 x311002 x325000 x325001 x325002) else (laws_FnOrder.j1 k t329 false x310000 x310001 x310002 x311000 x311001 x311002 x325000 x325001 x325002)))) else ((spec_MsgLess.f k x310000 x310001 x310002 x311000 x311001 x311002).bind fun t332 => (if (t329 != t332) = true then (laws_FnOrder.j1 k t329 true x310000 x310001 x310002 x311000 x311001 x311002 x325000 x325001 x325002) else (if t330 = true then (laws_FnOrder.j1 k t329 false x310000 x310001 x310002 x311000 x311001 x311002 x325000 x325001 x325002) else (laws_FnOrder.j1 k t329 (!(x310000 == x311000) || (!(x310001 == x311001) || (!(x310002.toList == x311002.toList)))) x310000 x310001 x310002 x311000 x311001 x311002 x325000 x325001 x325002)))))))
def laws_FnOrder.j1 : Nat → Bool → Bool → Int → Int → ByteArray → Int → Int → ByteArray → Int → Int → ByteArray → Option (Bool)
 | 0, _, _, _, _, _, _, _, _, _, _, _ => none
 | k + 1, x7, x70, x310000, x310001, x310002, x311000, x311001, x311002, x325000, x325001, x325002 => if x70 = true then (some false) else ((spec_MsgOk.f k x325000 x325001 x325002).bind fun t333 => (if t333 = true then (if x7 = true then ((impl_MsgLess.f k x311000 x311001 x311002 x325000 x325001 x325002).bind fun t334 => (if t334 = true then ((impl_MsgLess.f k x310000 x310001 x310002 x325000 x325001 x325002).bind fun t335 => (some t335)) else (some true))) else (some true)) else (some true)))
end
def laws_FnOrder.f (k : Nat) (l0 : List Int) : Option (Bool) := (laws_big.f l0).bind fun t302 => (if t302 = true then (some true) else ((spec_DrawMsgLess.f k l0).bind fun bt303 => ((some (([3] : List Int) : List Int)).bind fun y311 => (if y311.length + l0.length < 140737488355328 then ((spec_DrawMsgLess.f k (y311 ++ l0)).bind fun bt317 => ((spec_MsgOk.f k bt303.1 bt303.2.1 bt303.2.2.1).bind fun t325 => (if t325 = true then ((spec_MsgOk.f k bt303.2.2.2.1 bt303.2.2.2.2.1 bt303.2.2.2.2.2).bind fun t326 => (laws_FnOrder.j0 k (!t326) bt303.1 bt303.2.1 bt303.2.2.1 bt303.2.2.2.1 bt303.2.2.2.2.1 bt303.2.2.2.2.2 bt317.2.2.2.1 bt317.2.2.2.2.1 bt317.2.2.2.2.2)) else (laws_FnOrder.j0 k true bt303.1 bt303.2.1 bt303.2.2.1 bt303.2.2.2.1 bt303.2.2.2.2.1 bt303.2.2.2.2.2 bt317.2.2.2.1 bt317.2.2.2.2.1 bt317.2.2.2.2.2)))) else (none)))))
theorem laws_FnOrder.mono_l : ∀ k, (∀ y0 y1 y2 y3 y4 y5 y6 y7 y8 y9, LeO (laws_FnOrder.j0 k y0 y1 y2 y3 y4 y5 y6 y7 y8 y9) (laws_FnOrder.j0 (k + 1) y0 y1 y2 y3 y4 y5 y6 y7 y8 y9)) ∧ (∀ y0 y1 y2 y3 y4 y5 y6 y7 y8 y9 y10, LeO (laws_FnOrder.j1 k y0 y1 y2 y3 y4 y5 y6 y7 y8 y9 y10) (laws_FnOrder.j1 (k + 1) y0 y1 y2 y3 y4 y5 y6 y7 y8 y9 y10))
 | 0 => ⟨fun _ _ _ _ _ _ _ _ _ _ r h => by simp [laws_FnOrder.j0] at h, fun _ _ _ _ _ _ _ _ _ _ _ r h => by simp [laws_FnOrder.j1] at h⟩
 | k + 1 => by
  obtain ⟨ih0, ih1⟩ := laws_FnOrder.mono_l k
  refine ⟨?_, ?_⟩
  ·intro y0 y1 y2 y3 y4 y5 y6 y7 y8 y9
   unfold laws_FnOrder.j0
   repeat' first
   | (with_reducible exact ih0 _ _ _ _ _ _ _ _ _ _)
   | (with_reducible exact ih1 _ _ _ _ _ _ _ _ _ _ _)
   | (with_reducible exact impl_MsgLess.mono _ _ _ _ _ _ _)
   | (with_reducible exact spec_DrawMsgLess.mono _ _)
   | (with_reducible exact spec_MsgLess.mono _ _ _ _ _ _ _)
   | (with_reducible exact spec_MsgOk.mono _ _ _ _)
   | (with_reducible exact LeO.refl _)
   | (with_reducible exact LeO.none _)
   | (with_reducible refine LeO.ite ?_ ?_)
   | (with_reducible refine LeO.bind ?_ (fun _ => ?_))
  ·intro y0 y1 y2 y3 y4 y5 y6 y7 y8 y9 y10
   unfold laws_FnOrder.j1
   repeat' first
   | (with_reducible exact ih0 _ _ _ _ _ _ _ _ _ _)
   | (with_reducible exact ih1 _ _ _ _ _ _ _ _ _ _ _)
   | (with_reducible exact impl_MsgLess.mono _ _ _ _ _ _ _)
   | (with_reducible exact spec_DrawMsgLess.mono _ _)
   | (with_reducible exact spec_MsgLess.mono _ _ _ _ _ _ _)
   | (with_reducible exact spec_MsgOk.mono _ _ _ _)
   | (with_reducible exact LeO.refl _)
   | (with_reducible exact LeO.none _)
   | (with_reducible refine LeO.ite ?_ ?_)
   | (with_reducible refine LeO.bind ?_ (fun _ => ?_))
theorem laws_FnOrder.mono : ∀ a0 k, LeO (laws_FnOrder.f k a0) (laws_FnOrder.f (k + 1) a0) := by
 intro a0 k
 obtain ⟨ih0, ih1⟩ := laws_FnOrder.mono_l k
 unfold laws_FnOrder.f
 repeat' first
   | (with_reducible exact ih0 _ _ _ _ _ _ _ _ _ _)
   | (with_reducible exact ih1 _ _ _ _ _ _ _ _ _ _ _)
   | (with_reducible exact impl_MsgLess.mono _ _ _ _ _ _ _)
   | (with_reducible exact spec_DrawMsgLess.mono _ _)
   | (with_reducible exact spec_MsgLess.mono _ _ _ _ _ _ _)
   | (with_reducible exact spec_MsgOk.mono _ _ _ _)
   | (with_reducible exact LeO.refl _)
   | (with_reducible exact LeO.none _)
   | (with_reducible refine LeO.ite ?_ ?_)
   | (with_reducible refine LeO.bind ?_ (fun _ => ?_))
def laws_FnOrder.T7 : Bool × List (List Nat × List Nat) := (true, [([], []), ([], []), ([0, 1], [0, 1]), ([], []), ([], []), ([3, 4, 2], [3, 4]), ([2, 5, 0, 1, 2], [2]), ([5, 6, 0, 1, 2, 3, 4, 5, 6], [5])])
def laws_FnOrder.B7 : List Nat := [0, 0, 3, 0, 0, 31, 63, 127]
theorem laws_FnOrder.tab7 : rtab .any (opsOf Try.f8 7) = laws_FnOrder.T7 := by kernel_rfl
theorem laws_FnOrder.bits7 : waitsOk laws_FnOrder.T7.2 laws_FnOrder.B7 = true := by kernel_rfl
set_option maxHeartbeats 8000000 in
set_option maxRecDepth 100000 in
theorem laws_FnOrder.calls (k : Nat) (A0 : Option Addr) (c0 : Nat) (l0 : List Int) (r : Bool) (w : World) (hr0 : Kd.C (Kd.int .u8) w A0 l0.length l0) (hc0 : l0.length ≤ c0) (HQ_ : Aside0 (r = true)) (h : laws_FnOrder.f k l0 = some r) :
  Calls Try.prog 8 #[.slice A0 l0.length c0] w fun e w' => e = .returned (.bool r) ∧ Below w.heap.size w w' := by
 have hu27 := Try.underlying27
 have HR0 := am hr0
 have HC0 := am hc0
 clear hr0 hc0
 have HB := am (Below.refl w.heap.size w)
 have H : ((laws_big.f l0).bind fun t302 => (if t302 = true then (some true) else ((spec_DrawMsgLess.f k l0).bind fun bt303 => ((some (([3] : List Int) : List Int)).bind fun y311 => (if y311.length + l0.length < 140737488355328 then ((spec_DrawMsgLess.f k (y311 ++ l0)).bind fun bt317 => ((spec_MsgOk.f k bt303.1 bt303.2.1 bt303.2.2.1).bind fun t325 => (if t325 = true then ((spec_MsgOk.f k bt303.2.2.2.1 bt303.2.2.2.2.1 bt303.2.2.2.2.2).bind fun t326 => (laws_FnOrder.j0 k (!t326) bt303.1 bt303.2.1 bt303.2.2.1 bt303.2.2.2.1 bt303.2.2.2.2.1 bt303.2.2.2.2.2 bt317.2.2.2.1 bt317.2.2.2.2.1 bt317.2.2.2.2.2)) else (laws_FnOrder.j0 k true bt303.1 bt303.2.1 bt303.2.2.1 bt303.2.2.2.1 bt303.2.2.2.2.1 bt303.2.2.2.2.2 bt317.2.2.2.1 bt317.2.2.2.2.1 bt317.2.2.2.2.2)))) else (none)))))) = some r := h
 clear h
 replace H := Option.bind_eq_some_iff.mp H
 obtain ⟨t302, A20, H⟩ := H
 replace H : (if t302 = true then (some true) else ((spec_DrawMsgLess.f k l0).bind fun bt303 => ((some (([3] : List Int) : List Int)).bind fun y311 => (if y311.length + l0.length < 140737488355328 then ((spec_DrawMsgLess.f k (y311 ++ l0)).bind fun bt317 => ((spec_MsgOk.f k bt303.1 bt303.2.1 bt303.2.2.1).bind fun t325 => (if t325 = true then ((spec_MsgOk.f k bt303.2.2.2.1 bt303.2.2.2.2.1 bt303.2.2.2.2.2).bind fun t326 => (laws_FnOrder.j0 k (!t326) bt303.1 bt303.2.1 bt303.2.2.1 bt303.2.2.2.1 bt303.2.2.2.2.1 bt303.2.2.2.2.2 bt317.2.2.2.1 bt317.2.2.2.2.1 bt317.2.2.2.2.2)) else (laws_FnOrder.j0 k true bt303.1 bt303.2.1 bt303.2.2.1 bt303.2.2.2.1 bt303.2.2.2.2.1 bt303.2.2.2.2.2 bt317.2.2.2.1 bt317.2.2.2.2.1 bt317.2.2.2.2.2)))) else (none))))) = some r := H
 have A2 := am A20
 clear A20
 by_cases c3 : t302 = true
 ·subst c3
  replace H : (some true) = some r := by rw [if_pos rfl] at H; exact H
  obtain rfl := Option.some.inj H
  go_enter Try.func8, Try.ntmps8
  go_wp2_with (first | ((with_reducible refine gate_callee (f := 23) rfl ?_); refine goesL_ (some 10) rfl rfl Try.func23 (by kernel_rfl) rfl #[.slice A0 l0.length c0] rfl mpx ?_; (with_reducible refine (laws_big.calls _ _ l0 true _ ?side1 ?side2 A2.out).mono ?_); (case side1 => exact pkC HR0.out); (case side2 => exact HC0.out); rintro e w' ⟨rfl, ⟨nd, rfl⟩⟩; refine ⟨_, rfl, ?_⟩))
  go_ret
  exact ⟨rfe, pkB HB.out⟩
 ·replace c3 := Bool.eq_false_iff.mpr c3
  subst c3
  replace H : ((spec_DrawMsgLess.f k l0).bind fun bt303 => ((some (([3] : List Int) : List Int)).bind fun y311 => (if y311.length + l0.length < 140737488355328 then ((spec_DrawMsgLess.f k (y311 ++ l0)).bind fun bt317 => ((spec_MsgOk.f k bt303.1 bt303.2.1 bt303.2.2.1).bind fun t325 => (if t325 = true then ((spec_MsgOk.f k bt303.2.2.2.1 bt303.2.2.2.2.1 bt303.2.2.2.2.2).bind fun t326 => (laws_FnOrder.j0 k (!t326) bt303.1 bt303.2.1 bt303.2.2.1 bt303.2.2.2.1 bt303.2.2.2.2.1 bt303.2.2.2.2.2 bt317.2.2.2.1 bt317.2.2.2.2.1 bt317.2.2.2.2.2)) else (laws_FnOrder.j0 k true bt303.1 bt303.2.1 bt303.2.2.1 bt303.2.2.2.1 bt303.2.2.2.2.1 bt303.2.2.2.2.2 bt317.2.2.2.1 bt317.2.2.2.2.1 bt317.2.2.2.2.2)))) else (none)))) = some r := by rw [if_neg (show ¬ (false = true) by decide)] at H; exact H
  replace H := Option.bind_eq_some_iff.mp H
  obtain ⟨⟨t303, t304, t305, t306, t307, t308⟩, A40, H⟩ := H
  replace H : ((some (([3] : List Int) : List Int)).bind fun y311 => (if y311.length + l0.length < 140737488355328 then ((spec_DrawMsgLess.f k (y311 ++ l0)).bind fun bt317 => ((spec_MsgOk.f k t303 t304 t305).bind fun t325 => (if t325 = true then ((spec_MsgOk.f k t306 t307 t308).bind fun t326 => (laws_FnOrder.j0 k (!t326) t303 t304 t305 t306 t307 t308 bt317.2.2.2.1 bt317.2.2.2.2.1 bt317.2.2.2.2.2)) else (laws_FnOrder.j0 k true t303 t304 t305 t306 t307 t308 bt317.2.2.2.1 bt317.2.2.2.2.1 bt317.2.2.2.2.2)))) else (none))) = some r := H
  have A4 := am A40
  clear A40
  obtain ⟨y311, hy311⟩ : ∃ y_ : List Int, y_ = (([3] : List Int)) := ⟨_, rfl⟩
  replace H : (if y311.length + l0.length < 140737488355328 then ((spec_DrawMsgLess.f k (y311 ++ l0)).bind fun bt317 => ((spec_MsgOk.f k t303 t304 t305).bind fun t325 => (if t325 = true then ((spec_MsgOk.f k t306 t307 t308).bind fun t326 => (laws_FnOrder.j0 k (!t326) t303 t304 t305 t306 t307 t308 bt317.2.2.2.1 bt317.2.2.2.2.1 bt317.2.2.2.2.2)) else (laws_FnOrder.j0 k true t303 t304 t305 t306 t307 t308 bt317.2.2.2.1 bt317.2.2.2.2.1 bt317.2.2.2.2.2)))) else (none)) = some r := by first | (rw [hy311]; with_reducible exact H) | (have H2_ := (Option.bind_some _ _).symm.trans H; rw [hy311]; with_reducible exact H2_) | (have H2_ := (Option.bind_some _ _).symm.trans H; with_reducible exact H2_) | with_reducible exact H | (rw [hy311]; exact H) | exact H
  have Ny311 := am hy311
  clear hy311
  by_cases c5 : y311.length + l0.length < 140737488355328
  ·rw [if_pos c5] at H
   have LMc5 := am c5
   clear c5
   obtain ⟨y314, hy314⟩ : ∃ y_ : List Int, y_ = (y311 ++ l0) := ⟨_, rfl⟩
   replace H : ((spec_DrawMsgLess.f k y314).bind fun bt317 => ((spec_MsgOk.f k t303 t304 t305).bind fun t325 => (if t325 = true then ((spec_MsgOk.f k t306 t307 t308).bind fun t326 => (laws_FnOrder.j0 k (!t326) t303 t304 t305 t306 t307 t308 bt317.2.2.2.1 bt317.2.2.2.2.1 bt317.2.2.2.2.2)) else (laws_FnOrder.j0 k true t303 t304 t305 t306 t307 t308 bt317.2.2.2.1 bt317.2.2.2.2.1 bt317.2.2.2.2.2)))) = some r := by first | (rw [hy314]; with_reducible exact H) | (have H2_ := (Option.bind_some _ _).symm.trans H; rw [hy314]; with_reducible exact H2_) | (have H2_ := (Option.bind_some _ _).symm.trans H; with_reducible exact H2_) | with_reducible exact H | (rw [hy314]; exact H) | exact H
   have Ny314 := am hy314
   clear hy314
   replace H := Option.bind_eq_some_iff.mp H
   obtain ⟨⟨t317, t318, t319, t320, t321, t322⟩, A60, H⟩ := H
   replace H : ((spec_MsgOk.f k t303 t304 t305).bind fun t325 => (if t325 = true then ((spec_MsgOk.f k t306 t307 t308).bind fun t326 => (laws_FnOrder.j0 k (!t326) t303 t304 t305 t306 t307 t308 t320 t321 t322)) else (laws_FnOrder.j0 k true t303 t304 t305 t306 t307 t308 t320 t321 t322))) = some r := H
   have A6 := am A60
   clear A60
   have HC7 := am H
   clear H
   go_enter Try.func8, Try.ntmps8
   go_upto_region 5 with (first | ((with_reducible refine gate_callee (f := 23) rfl ?_); refine goesL_ (some 10) rfl rfl Try.func23 (by kernel_rfl) rfl #[.slice A0 l0.length c0] rfl mpx ?_; (with_reducible refine (laws_big.calls _ _ l0 false _ ?side1 ?side2 A2.out).mono ?_); (case side1 => exact pkC HR0.out); (case side2 => exact HC0.out); rintro e w' ⟨rfl, ⟨nd, rfl⟩⟩; refine ⟨_, rfl, ?_⟩) | ((with_reducible refine gate_callee (f := 24) rfl ?_); refine goesL_ (some 13) rfl rfl Try.func24 (by kernel_rfl) rfl #[.slice A0 l0.length c0] rfl mpx ?_; (with_reducible refine (spec_DrawMsgLess.calls k _ _ l0 t303 t304 t305 t306 t307 t308 _ ?side1 ?side2 A4.out).mono ?_); (case side1 => exact pkC HR0.out); (case side2 => exact HC0.out); rintro e w8 ⟨rfl, hb⟩; refine ⟨_, rfl, ?_⟩; replace HB := am (below_step (pkB HB.out) hb); (try clear hb)) | ((with_reducible refine gate_dst (N := 3) rfl ?_); refine box_event ?hg (N := 3) ?hd (cs := #[.int .i64 0, .int .i64 0, .string (⟨#[]⟩ : ByteArray)]) (t := 27) ?hr ?_; (case hd => rfl); (case hg => rfl); (case hr => first | (go_simp; done) | (go_simp; rfl)); intro gb309 hg w9 hbox hb; have BK309 := am (hbox); have GW309 := am ((by rw [hg]; exact (below_size (pkB HB.out)) : w.heap.size ≤ gb309)); have GE309 := am ((by rw [hg]; exact (below_size (pkB HB.out)) : w.heap.size ≤ gb309)); replace HB := am (below_step (pkB HB.out) hb); clear hb hbox hg) | ((with_reducible refine gate_dst (N := 4) rfl ?_); refine box_event ?hg (N := 4) ?hd (cs := #[.int .i64 0, .int .i64 0, .string (⟨#[]⟩ : ByteArray)]) (t := 27) ?hr ?_; (case hd => rfl); (case hg => rfl); (case hr => first | (go_simp; done) | (go_simp; rfl)); intro gb310 hg w10 hbox hb; have BK310 := am (hbox); have GW310 := am ((by rw [hg]; exact (below_size (pkW HB.out)) : w.heap.size ≤ gb310)); have GE310 := am ((by rw [hg]; exact (below_size (pkW HB.out)) : w.heap.size ≤ gb310)); replace HB := am (below_step (pkW HB.out) hb); have NB309_310 := am ((by rw [hg]; exact Nat.ne_of_lt (blk_lt (g := gb309) (o := .cells #[.int .i64 0, .int .i64 0, .string (⟨#[]⟩ : ByteArray)] 27 (0, 0)) (pkK BK309.out)) : gb309 ≠ gb310)); have NB310_309 := am ((by rw [hg]; exact Nat.ne_of_gt (blk_lt (g := gb309) (o := .cells #[.int .i64 0, .int .i64 0, .string (⟨#[]⟩ : ByteArray)] 27 (0, 0)) (pkK BK309.out)) : gb310 ≠ gb309)); replace BK309 := am (blk_below (pkK BK309.out) hb); clear hb hbox hg; have hnb11 := NB309_310.out; have hnc11 := NB310_309.out; obtain ⟨hcz12_0, hcz12_1, hcz12_2, hfz12_0, hfz12_1, hfz12_2⟩ := bk3 BK309.out; obtain ⟨hcz13_0, hcz13_1, hcz13_2, hfz13_0, hfz13_1, hfz13_2⟩ := bk3 BK310.out) | ((with_reducible refine gate_dst (N := 17) rfl ?_); refine Kd.R_lit (Kd.int .u8) _ 5 ?hg (N := 17) ?hd (xs := ([3] : List Int)) (inner := [.int .u8 3]) (ok := fun _ => True) (okp := fun _ => True) ?hr ?hp (fun _ hk => hk) trivial (Below.refl _ _) (Nat.le_refl _) (by simp) ?_; (case hd => rfl); (case hg => rfl); (case hr => first | (go_simp; done) | (go_simp; rfl)); (case hp => exact (Reps.one (show Kd.M (Kd.int .u8) _ _ _ 3 [.int .u8 3] from rfl) (Reps.none _ _))); intro v312 w14 ho15 hb hg_ hnew_; clear hg_ hnew_; (first | rw [← Ny311.out] at ho15 | (simp only [Int.reduceToNat] at ho15; rw [← Ny311.out] at ho15)); have HO313 := am (Kd.R_lower ho15 (below_size (pkW HB.out))); replace BK309 := am (blk_below (g := gb309) (o := .cells #[.int .i64 t303, .int .i64 t304, .string t305] 27 (0, 0)) (by (with_reducible repeat (first | refine blk_drewN ?_ _ | refine blk_drew ?_ | refine blk_alloc ?_ _)); refine blk_far ?_ NB309_310.out _; (with_reducible repeat (first | refine blk_drewN ?_ _ | refine blk_drew ?_ | refine blk_alloc ?_ _)); refine blk_far ?_ NB309_310.out _; (with_reducible repeat (first | refine blk_drewN ?_ _ | refine blk_drew ?_ | refine blk_alloc ?_ _)); refine blk_far ?_ NB309_310.out _; (with_reducible repeat (first | refine blk_drewN ?_ _ | refine blk_drew ?_ | refine blk_alloc ?_ _)); refine blk_put (cs := #[.int .i64 t303, .int .i64 t304, .string (⟨#[]⟩ : ByteArray)]) ?_ 2 _ rfl; (with_reducible repeat (first | refine blk_drewN ?_ _ | refine blk_drew ?_ | refine blk_alloc ?_ _)); refine blk_put (cs := #[.int .i64 t303, .int .i64 0, .string (⟨#[]⟩ : ByteArray)]) ?_ 1 _ rfl; (with_reducible repeat (first | refine blk_drewN ?_ _ | refine blk_drew ?_ | refine blk_alloc ?_ _)); refine blk_put (cs := #[.int .i64 0, .int .i64 0, .string (⟨#[]⟩ : ByteArray)]) ?_ 0 _ rfl; exact pkK BK309.out) hb); replace BK310 := am (blk_below (g := gb310) (o := .cells #[.int .i64 t306, .int .i64 t307, .string t308] 27 (0, 0)) (by (with_reducible repeat (first | refine blk_drewN ?_ _ | refine blk_drew ?_ | refine blk_alloc ?_ _)); refine blk_put (cs := #[.int .i64 t306, .int .i64 t307, .string (⟨#[]⟩ : ByteArray)]) ?_ 2 _ rfl; (with_reducible repeat (first | refine blk_drewN ?_ _ | refine blk_drew ?_ | refine blk_alloc ?_ _)); refine blk_put (cs := #[.int .i64 t306, .int .i64 0, .string (⟨#[]⟩ : ByteArray)]) ?_ 1 _ rfl; (with_reducible repeat (first | refine blk_drewN ?_ _ | refine blk_drew ?_ | refine blk_alloc ?_ _)); refine blk_put (cs := #[.int .i64 0, .int .i64 0, .string (⟨#[]⟩ : ByteArray)]) ?_ 0 _ rfl; (with_reducible repeat (first | refine blk_drewN ?_ _ | refine blk_drew ?_ | refine blk_alloc ?_ _)); refine blk_far ?_ NB310_309.out _; (with_reducible repeat (first | refine blk_drewN ?_ _ | refine blk_drew ?_ | refine blk_alloc ?_ _)); refine blk_far ?_ NB310_309.out _; (with_reducible repeat (first | refine blk_drewN ?_ _ | refine blk_drew ?_ | refine blk_alloc ?_ _)); refine blk_far ?_ NB310_309.out _; exact pkK BK310.out) hb); replace HB := am (below_step (pkW HB.out) hb); clear hb ho15) | ((with_reducible refine gate_builtin (b := .append) (xs := #[.tmp 17, .tmp 18]) rfl ?_); at_builtin; refine Kd.R_append_rows (Kd.int .u8) (w0 := w) w.heap.size rfl (.tmp 17) (.tmp 18) 36 5 (.int .u8 0) 1 rfl Try.underlying36 info5 rfl (by decide) (by omega) v312 y311 l0 _ _ _ (fun _ => True) (fun _ => False) rfl rfl ?aO ?aR (fun _ _ h => h) (fun _ h => h.elim) ?aF ?aB ?aS ?aL ?_; (case aR => repeat (first | exact (Kd.C_below HR0.out HB.out) | (with_reducible refine Kd.C_alloc ?_ _) | (with_reducible refine Kd.C_drewN ?_ _) | (with_reducible refine Kd.C_drew ?_))); (case aB => exact (pkW HB.out)); (case aF => exact (fun _ _ => trivial)); (case aO => exact (pkR HO313.out)); (case aS => exact (below_size (pkW HB.out))); (case aL => have := LMc5.out; omega); intro v315 w16 ho hb hg hat; rw [← Ny314.out] at ho; replace BK309 := am (blk_grown (g := gb309) (o := .cells #[.int .i64 t303, .int .i64 t304, .string t305] 27 (0, 0)) (pkK BK309.out) hg (Kd.R_ne HO313.out BK309.out (by decide))); replace BK310 := am (blk_grown (g := gb310) (o := .cells #[.int .i64 t306, .int .i64 t307, .string t308] 27 (0, 0)) (pkK BK310.out) hg (Kd.R_ne HO313.out BK310.out (by decide))); replace HB := am (hb); have HO316 := am (ho); clear HO313; clear ho hb hg hat; obtain ⟨Ao17, co17, eo17⟩ := Kd.R_slice HO316.out; subst eo17) | ((with_reducible refine gate_callee (f := 24) rfl ?_); refine goesL_ (some 20) rfl rfl Try.func24 (by kernel_rfl) rfl #[.slice Ao17 y314.length co17] rfl mpx ?_; (with_reducible refine (spec_DrawMsgLess.calls k _ _ y314 t317 t318 t319 t320 t321 t322 _ ?side1 ?side2 A6.out).mono ?_); (case side1 => exact pkC (Kd.R_reads' HO316.out).2.2); (case side2 => exact (Kd.R_reads' HO316.out).2.1); rintro e w18 ⟨rfl, hb⟩; refine ⟨_, rfl, ?_⟩; replace HO316 := am (Kd.R_below (pkR HO316.out) hb); replace BK309 := am (blk_below (pkK BK309.out) hb); replace BK310 := am (blk_below (pkK BK310.out) hb); replace HB := am (below_step (pkW HB.out) hb); (try clear hb)) | ((with_reducible refine gate_dst (N := 5) rfl ?_); refine box_event ?hg (N := 5) ?hd (cs := #[.int .i64 0, .int .i64 0, .string (⟨#[]⟩ : ByteArray)]) (t := 27) ?hr ?_; (case hd => rfl); (case hg => rfl); (case hr => first | (go_simp; done) | (go_simp; rfl)); intro gb323 hg w19 hbox hb; replace HO316 := am (Kd.R_below (pkR HO316.out) hb); have BK323 := am (hbox); have GW323 := am ((by rw [hg]; exact (below_size (pkW HB.out)) : w.heap.size ≤ gb323)); have GE323 := am ((by rw [hg]; exact (below_size (pkW HB.out)) : w.heap.size ≤ gb323)); replace HB := am (below_step (pkW HB.out) hb); have NB309_323 := am ((by rw [hg]; exact Nat.ne_of_lt (blk_lt (g := gb309) (o := .cells #[.int .i64 t303, .int .i64 t304, .string t305] 27 (0, 0)) (pkK BK309.out)) : gb309 ≠ gb323)); have NB323_309 := am ((by rw [hg]; exact Nat.ne_of_gt (blk_lt (g := gb309) (o := .cells #[.int .i64 t303, .int .i64 t304, .string t305] 27 (0, 0)) (pkK BK309.out)) : gb323 ≠ gb309)); replace BK309 := am (blk_below (pkK BK309.out) hb); have NB310_323 := am ((by rw [hg]; exact Nat.ne_of_lt (blk_lt (g := gb310) (o := .cells #[.int .i64 t306, .int .i64 t307, .string t308] 27 (0, 0)) (pkK BK310.out)) : gb310 ≠ gb323)); have NB323_310 := am ((by rw [hg]; exact Nat.ne_of_gt (blk_lt (g := gb310) (o := .cells #[.int .i64 t306, .int .i64 t307, .string t308] 27 (0, 0)) (pkK BK310.out)) : gb323 ≠ gb310)); replace BK310 := am (blk_below (pkK BK310.out) hb); clear hb hbox hg) | ((with_reducible refine gate_dst (N := 6) rfl ?_); refine box_event ?hg (N := 6) ?hd (cs := #[.int .i64 0, .int .i64 0, .string (⟨#[]⟩ : ByteArray)]) (t := 27) ?hr ?_; (case hd => rfl); (case hg => rfl); (case hr => first | (go_simp; done) | (go_simp; rfl)); intro gb324 hg w20 hbox hb; replace HO316 := am (Kd.R_below (pkR HO316.out) hb); have BK324 := am (hbox); have GW324 := am ((by rw [hg]; exact (below_size (pkW HB.out)) : w.heap.size ≤ gb324)); have GE324 := am ((by rw [hg]; exact (below_size (pkW HB.out)) : w.heap.size ≤ gb324)); replace HB := am (below_step (pkW HB.out) hb); have NB309_324 := am ((by rw [hg]; exact Nat.ne_of_lt (blk_lt (g := gb309) (o := .cells #[.int .i64 t303, .int .i64 t304, .string t305] 27 (0, 0)) (pkK BK309.out)) : gb309 ≠ gb324)); have NB324_309 := am ((by rw [hg]; exact Nat.ne_of_gt (blk_lt (g := gb309) (o := .cells #[.int .i64 t303, .int .i64 t304, .string t305] 27 (0, 0)) (pkK BK309.out)) : gb324 ≠ gb309)); replace BK309 := am (blk_below (pkK BK309.out) hb); have NB310_324 := am ((by rw [hg]; exact Nat.ne_of_lt (blk_lt (g := gb310) (o := .cells #[.int .i64 t306, .int .i64 t307, .string t308] 27 (0, 0)) (pkK BK310.out)) : gb310 ≠ gb324)); have NB324_310 := am ((by rw [hg]; exact Nat.ne_of_gt (blk_lt (g := gb310) (o := .cells #[.int .i64 t306, .int .i64 t307, .string t308] 27 (0, 0)) (pkK BK310.out)) : gb324 ≠ gb310)); replace BK310 := am (blk_below (pkK BK310.out) hb); have NB323_324 := am ((by rw [hg]; exact Nat.ne_of_lt (blk_lt (g := gb323) (o := .cells #[.int .i64 0, .int .i64 0, .string (⟨#[]⟩ : ByteArray)] 27 (0, 0)) (pkK BK323.out)) : gb323 ≠ gb324)); have NB324_323 := am ((by rw [hg]; exact Nat.ne_of_gt (blk_lt (g := gb323) (o := .cells #[.int .i64 0, .int .i64 0, .string (⟨#[]⟩ : ByteArray)] 27 (0, 0)) (pkK BK323.out)) : gb324 ≠ gb323)); replace BK323 := am (blk_below (pkK BK323.out) hb); clear hb hbox hg; have hnb21 := NB323_309.out; have hnc21 := NB309_323.out; have hnb22 := NB323_310.out; have hnc22 := NB310_323.out; have hnb23 := NB323_324.out; have hnc23 := NB324_323.out; obtain ⟨hcz24_0, hcz24_1, hcz24_2, hfz24_0, hfz24_1, hfz24_2⟩ := bk3 BK323.out; have hnb25 := NB324_309.out; have hnc25 := NB309_324.out; have hnb26 := NB324_310.out; have hnc26 := NB310_324.out; obtain ⟨hcz27_0, hcz27_1, hcz27_2, hfz27_0, hfz27_1, hfz27_2⟩ := bk3 BK324.out))
   (try simp only [Act.put, List.setIfInBounds_toArray, List.set_cons_zero, List.set_cons_succ])
   go_cut [30] (fun v30 wc => ∃ (kq : Nat) (x30_6 : Bool), v30 = .bool x30_6 ∧ Aside0 (laws_FnOrder.j0 kq x30_6 t303 t304 t305 t306 t307 t308 t320 t321 t322 = some r) ∧ Aside0 (kq ≤ k) ∧ Aside0 (wc.heap[gb309]? = some (.cells #[.int .i64 t303, .int .i64 t304, .string t305] 27 (0, 0))) ∧ Aside0 (wc.heap[gb310]? = some (.cells #[.int .i64 t306, .int .i64 t307, .string t308] 27 (0, 0))) ∧ Aside0 (wc.heap[gb323]? = some (.cells #[.int .i64 t317, .int .i64 t318, .string t319] 27 (0, 0))) ∧ Aside0 (wc.heap[gb324]? = some (.cells #[.int .i64 t320, .int .i64 t321, .string t322] 27 (0, 0))) ∧ Aside0 (Below w.heap.size w wc))
   case first =>
    have H := HC7.out
    clear HC7
    replace H := Option.bind_eq_some_iff.mp H
    obtain ⟨t325, A280, H⟩ := H
    replace H : (if t325 = true then ((spec_MsgOk.f k t306 t307 t308).bind fun t326 => (laws_FnOrder.j0 k (!t326) t303 t304 t305 t306 t307 t308 t320 t321 t322)) else (laws_FnOrder.j0 k true t303 t304 t305 t306 t307 t308 t320 t321 t322)) = some r := H
    have A28 := am A280
    clear A280
    by_cases c29 : t325 = true
    ·subst c29
     replace H : ((spec_MsgOk.f k t306 t307 t308).bind fun t326 => (laws_FnOrder.j0 k (!t326) t303 t304 t305 t306 t307 t308 t320 t321 t322)) = some r := by rw [if_pos rfl] at H; exact H
     replace H := Option.bind_eq_some_iff.mp H
     obtain ⟨t326, A300, H⟩ := H
     replace H : (laws_FnOrder.j0 k (!t326) t303 t304 t305 t306 t307 t308 t320 t321 t322) = some r := H
     have A30 := am A300
     clear A300
     have H' := am H
     clear H
     have hnb31 := NB309_310.out
     have hnc31 := NB310_309.out
     have hnb32 := NB309_323.out
     have hnc32 := NB323_309.out
     have hnb33 := NB309_324.out
     have hnc33 := NB324_309.out
     obtain ⟨hcz34_0, hcz34_1, hcz34_2, hfz34_0, hfz34_1, hfz34_2⟩ := bk3 BK309.out
     go_wp2_with (first | ((with_reducible refine gate_callee (f := 13) rfl ?_); refine goesL_ (some 24) rfl rfl Try.func13 (by kernel_rfl) rfl #[.agg #[.int .i64 t303, .int .i64 t304, .string t305]] rfl mpx ?_; (with_reducible refine (spec_MsgOk.calls k t303 t304 t305 true _ A28.out).mono ?_); rintro e w35 ⟨rfl, hb⟩; refine ⟨_, rfl, ?_⟩; replace HO316 := am (Kd.R_below (by (with_reducible repeat (first | apply Kd.R_alloc | apply Kd.R_drewN | apply Kd.R_drew)); exact (Kd.R_mono (Kd.R_mono (Kd.R_far (p := ⟨gb324, 2, none⟩) (Kd.R_far (p := ⟨gb324, 1, none⟩) (Kd.R_far (p := ⟨gb324, 0, none⟩) (Kd.R_far (p := ⟨gb323, 2, none⟩) (Kd.R_far (p := ⟨gb323, 1, none⟩) (Kd.R_far (p := ⟨gb323, 0, none⟩) (Kd.R_types (Kd.R_types HO316.out BK323.out (by decide)) BK324.out (by decide)) (fun _ hk => hk.1.2) (.int .i64 t317)) (fun _ hk => hk.1.2) (.int .i64 t318)) (fun _ hk => hk.1.2) (.string t319)) (fun _ hk => hk.2) (.int .i64 t320)) (fun _ hk => hk.2) (.int .i64 t321)) (fun _ hk => hk.2) (.string t322)) (fun _ h_ => h_.1)) (fun _ h_ => h_.1))) hb); replace BK309 := am (blk_below (g := gb309) (o := .cells #[.int .i64 t303, .int .i64 t304, .string t305] 27 (0, 0)) (by (with_reducible repeat (first | refine blk_drewN ?_ _ | refine blk_drew ?_ | refine blk_alloc ?_ _)); refine blk_far ?_ NB309_324.out _; (with_reducible repeat (first | refine blk_drewN ?_ _ | refine blk_drew ?_ | refine blk_alloc ?_ _)); refine blk_far ?_ NB309_324.out _; (with_reducible repeat (first | refine blk_drewN ?_ _ | refine blk_drew ?_ | refine blk_alloc ?_ _)); refine blk_far ?_ NB309_324.out _; (with_reducible repeat (first | refine blk_drewN ?_ _ | refine blk_drew ?_ | refine blk_alloc ?_ _)); refine blk_far ?_ NB309_323.out _; (with_reducible repeat (first | refine blk_drewN ?_ _ | refine blk_drew ?_ | refine blk_alloc ?_ _)); refine blk_far ?_ NB309_323.out _; (with_reducible repeat (first | refine blk_drewN ?_ _ | refine blk_drew ?_ | refine blk_alloc ?_ _)); refine blk_far ?_ NB309_323.out _; exact pkK BK309.out) hb); replace BK310 := am (blk_below (g := gb310) (o := .cells #[.int .i64 t306, .int .i64 t307, .string t308] 27 (0, 0)) (by (with_reducible repeat (first | refine blk_drewN ?_ _ | refine blk_drew ?_ | refine blk_alloc ?_ _)); refine blk_far ?_ NB310_324.out _; (with_reducible repeat (first | refine blk_drewN ?_ _ | refine blk_drew ?_ | refine blk_alloc ?_ _)); refine blk_far ?_ NB310_324.out _; (with_reducible repeat (first | refine blk_drewN ?_ _ | refine blk_drew ?_ | refine blk_alloc ?_ _)); refine blk_far ?_ NB310_324.out _; (with_reducible repeat (first | refine blk_drewN ?_ _ | refine blk_drew ?_ | refine blk_alloc ?_ _)); refine blk_far ?_ NB310_323.out _; (with_reducible repeat (first | refine blk_drewN ?_ _ | refine blk_drew ?_ | refine blk_alloc ?_ _)); refine blk_far ?_ NB310_323.out _; (with_reducible repeat (first | refine blk_drewN ?_ _ | refine blk_drew ?_ | refine blk_alloc ?_ _)); refine blk_far ?_ NB310_323.out _; exact pkK BK310.out) hb); replace BK323 := am (blk_below (g := gb323) (o := .cells #[.int .i64 t317, .int .i64 t318, .string t319] 27 (0, 0)) (by (with_reducible repeat (first | refine blk_drewN ?_ _ | refine blk_drew ?_ | refine blk_alloc ?_ _)); refine blk_far ?_ NB323_324.out _; (with_reducible repeat (first | refine blk_drewN ?_ _ | refine blk_drew ?_ | refine blk_alloc ?_ _)); refine blk_far ?_ NB323_324.out _; (with_reducible repeat (first | refine blk_drewN ?_ _ | refine blk_drew ?_ | refine blk_alloc ?_ _)); refine blk_far ?_ NB323_324.out _; (with_reducible repeat (first | refine blk_drewN ?_ _ | refine blk_drew ?_ | refine blk_alloc ?_ _)); refine blk_put (cs := #[.int .i64 t317, .int .i64 t318, .string (⟨#[]⟩ : ByteArray)]) ?_ 2 _ rfl; (with_reducible repeat (first | refine blk_drewN ?_ _ | refine blk_drew ?_ | refine blk_alloc ?_ _)); refine blk_put (cs := #[.int .i64 t317, .int .i64 0, .string (⟨#[]⟩ : ByteArray)]) ?_ 1 _ rfl; (with_reducible repeat (first | refine blk_drewN ?_ _ | refine blk_drew ?_ | refine blk_alloc ?_ _)); refine blk_put (cs := #[.int .i64 0, .int .i64 0, .string (⟨#[]⟩ : ByteArray)]) ?_ 0 _ rfl; exact pkK BK323.out) hb); replace BK324 := am (blk_below (g := gb324) (o := .cells #[.int .i64 t320, .int .i64 t321, .string t322] 27 (0, 0)) (by (with_reducible repeat (first | refine blk_drewN ?_ _ | refine blk_drew ?_ | refine blk_alloc ?_ _)); refine blk_put (cs := #[.int .i64 t320, .int .i64 t321, .string (⟨#[]⟩ : ByteArray)]) ?_ 2 _ rfl; (with_reducible repeat (first | refine blk_drewN ?_ _ | refine blk_drew ?_ | refine blk_alloc ?_ _)); refine blk_put (cs := #[.int .i64 t320, .int .i64 0, .string (⟨#[]⟩ : ByteArray)]) ?_ 1 _ rfl; (with_reducible repeat (first | refine blk_drewN ?_ _ | refine blk_drew ?_ | refine blk_alloc ?_ _)); refine blk_put (cs := #[.int .i64 0, .int .i64 0, .string (⟨#[]⟩ : ByteArray)]) ?_ 0 _ rfl; (with_reducible repeat (first | refine blk_drewN ?_ _ | refine blk_drew ?_ | refine blk_alloc ?_ _)); refine blk_far ?_ NB324_323.out _; (with_reducible repeat (first | refine blk_drewN ?_ _ | refine blk_drew ?_ | refine blk_alloc ?_ _)); refine blk_far ?_ NB324_323.out _; (with_reducible repeat (first | refine blk_drewN ?_ _ | refine blk_drew ?_ | refine blk_alloc ?_ _)); refine blk_far ?_ NB324_323.out _; exact pkK BK324.out) hb); replace HB := am (below_step (pkW HB.out) hb); (try clear hb); have hnb36 := NB310_323.out; have hnc36 := NB323_310.out; have hnb37 := NB310_324.out; have hnc37 := NB324_310.out; obtain ⟨hcz38_0, hcz38_1, hcz38_2, hfz38_0, hfz38_1, hfz38_2⟩ := bk3 BK310.out) | (go_at_call 13; (with_reducible refine (spec_MsgOk.calls k t306 t307 t308 t326 _ A30.out).mono ?_); rintro e w39 ⟨rfl, hb⟩; replace HO316 := am (Kd.R_below (pkR HO316.out) hb); replace BK309 := am (blk_below (pkK BK309.out) hb); replace BK310 := am (blk_below (pkK BK310.out) hb); replace BK323 := am (blk_below (pkK BK323.out) hb); replace BK324 := am (blk_below (pkK BK324.out) hb); replace HB := am (below_step (pkW HB.out) hb); (try clear hb)))
     go_meet
     case rel => exact ⟨_, (!t326), rfx, H', ⟨by first | omega | exact Nat.le_refl _⟩, ⟨pkK BK309.out⟩, ⟨pkK BK310.out⟩, ⟨pkK BK323.out⟩, ⟨pkK BK324.out⟩, ⟨pkW HB.out⟩⟩
    ·replace c29 := Bool.eq_false_iff.mpr c29
     subst c29
     replace H : (laws_FnOrder.j0 k true t303 t304 t305 t306 t307 t308 t320 t321 t322) = some r := by rw [if_neg (show ¬ (false = true) by decide)] at H; exact H
     have H' := am H
     clear H
     have hnb40 := NB309_310.out
     have hnc40 := NB310_309.out
     have hnb41 := NB309_323.out
     have hnc41 := NB323_309.out
     have hnb42 := NB309_324.out
     have hnc42 := NB324_309.out
     obtain ⟨hcz43_0, hcz43_1, hcz43_2, hfz43_0, hfz43_1, hfz43_2⟩ := bk3 BK309.out
     go_wp2_with (first | ((with_reducible refine gate_callee (f := 13) rfl ?_); refine goesL_ (some 24) rfl rfl Try.func13 (by kernel_rfl) rfl #[.agg #[.int .i64 t303, .int .i64 t304, .string t305]] rfl mpx ?_; (with_reducible refine (spec_MsgOk.calls k t303 t304 t305 false _ A28.out).mono ?_); rintro e w44 ⟨rfl, hb⟩; refine ⟨_, rfl, ?_⟩; replace HO316 := am (Kd.R_below (by (with_reducible repeat (first | apply Kd.R_alloc | apply Kd.R_drewN | apply Kd.R_drew)); exact (Kd.R_mono (Kd.R_mono (Kd.R_far (p := ⟨gb324, 2, none⟩) (Kd.R_far (p := ⟨gb324, 1, none⟩) (Kd.R_far (p := ⟨gb324, 0, none⟩) (Kd.R_far (p := ⟨gb323, 2, none⟩) (Kd.R_far (p := ⟨gb323, 1, none⟩) (Kd.R_far (p := ⟨gb323, 0, none⟩) (Kd.R_types (Kd.R_types HO316.out BK323.out (by decide)) BK324.out (by decide)) (fun _ hk => hk.1.2) (.int .i64 t317)) (fun _ hk => hk.1.2) (.int .i64 t318)) (fun _ hk => hk.1.2) (.string t319)) (fun _ hk => hk.2) (.int .i64 t320)) (fun _ hk => hk.2) (.int .i64 t321)) (fun _ hk => hk.2) (.string t322)) (fun _ h_ => h_.1)) (fun _ h_ => h_.1))) hb); replace BK309 := am (blk_below (g := gb309) (o := .cells #[.int .i64 t303, .int .i64 t304, .string t305] 27 (0, 0)) (by (with_reducible repeat (first | refine blk_drewN ?_ _ | refine blk_drew ?_ | refine blk_alloc ?_ _)); refine blk_far ?_ NB309_324.out _; (with_reducible repeat (first | refine blk_drewN ?_ _ | refine blk_drew ?_ | refine blk_alloc ?_ _)); refine blk_far ?_ NB309_324.out _; (with_reducible repeat (first | refine blk_drewN ?_ _ | refine blk_drew ?_ | refine blk_alloc ?_ _)); refine blk_far ?_ NB309_324.out _; (with_reducible repeat (first | refine blk_drewN ?_ _ | refine blk_drew ?_ | refine blk_alloc ?_ _)); refine blk_far ?_ NB309_323.out _; (with_reducible repeat (first | refine blk_drewN ?_ _ | refine blk_drew ?_ | refine blk_alloc ?_ _)); refine blk_far ?_ NB309_323.out _; (with_reducible repeat (first | refine blk_drewN ?_ _ | refine blk_drew ?_ | refine blk_alloc ?_ _)); refine blk_far ?_ NB309_323.out _; exact pkK BK309.out) hb); replace BK310 := am (blk_below (g := gb310) (o := .cells #[.int .i64 t306, .int .i64 t307, .string t308] 27 (0, 0)) (by (with_reducible repeat (first | refine blk_drewN ?_ _ | refine blk_drew ?_ | refine blk_alloc ?_ _)); refine blk_far ?_ NB310_324.out _; (with_reducible repeat (first | refine blk_drewN ?_ _ | refine blk_drew ?_ | refine blk_alloc ?_ _)); refine blk_far ?_ NB310_324.out _; (with_reducible repeat (first | refine blk_drewN ?_ _ | refine blk_drew ?_ | refine blk_alloc ?_ _)); refine blk_far ?_ NB310_324.out _; (with_reducible repeat (first | refine blk_drewN ?_ _ | refine blk_drew ?_ | refine blk_alloc ?_ _)); refine blk_far ?_ NB310_323.out _; (with_reducible repeat (first | refine blk_drewN ?_ _ | refine blk_drew ?_ | refine blk_alloc ?_ _)); refine blk_far ?_ NB310_323.out _; (with_reducible repeat (first | refine blk_drewN ?_ _ | refine blk_drew ?_ | refine blk_alloc ?_ _)); refine blk_far ?_ NB310_323.out _; exact pkK BK310.out) hb); replace BK323 := am (blk_below (g := gb323) (o := .cells #[.int .i64 t317, .int .i64 t318, .string t319] 27 (0, 0)) (by (with_reducible repeat (first | refine blk_drewN ?_ _ | refine blk_drew ?_ | refine blk_alloc ?_ _)); refine blk_far ?_ NB323_324.out _; (with_reducible repeat (first | refine blk_drewN ?_ _ | refine blk_drew ?_ | refine blk_alloc ?_ _)); refine blk_far ?_ NB323_324.out _; (with_reducible repeat (first | refine blk_drewN ?_ _ | refine blk_drew ?_ | refine blk_alloc ?_ _)); refine blk_far ?_ NB323_324.out _; (with_reducible repeat (first | refine blk_drewN ?_ _ | refine blk_drew ?_ | refine blk_alloc ?_ _)); refine blk_put (cs := #[.int .i64 t317, .int .i64 t318, .string (⟨#[]⟩ : ByteArray)]) ?_ 2 _ rfl; (with_reducible repeat (first | refine blk_drewN ?_ _ | refine blk_drew ?_ | refine blk_alloc ?_ _)); refine blk_put (cs := #[.int .i64 t317, .int .i64 0, .string (⟨#[]⟩ : ByteArray)]) ?_ 1 _ rfl; (with_reducible repeat (first | refine blk_drewN ?_ _ | refine blk_drew ?_ | refine blk_alloc ?_ _)); refine blk_put (cs := #[.int .i64 0, .int .i64 0, .string (⟨#[]⟩ : ByteArray)]) ?_ 0 _ rfl; exact pkK BK323.out) hb); replace BK324 := am (blk_below (g := gb324) (o := .cells #[.int .i64 t320, .int .i64 t321, .string t322] 27 (0, 0)) (by (with_reducible repeat (first | refine blk_drewN ?_ _ | refine blk_drew ?_ | refine blk_alloc ?_ _)); refine blk_put (cs := #[.int .i64 t320, .int .i64 t321, .string (⟨#[]⟩ : ByteArray)]) ?_ 2 _ rfl; (with_reducible repeat (first | refine blk_drewN ?_ _ | refine blk_drew ?_ | refine blk_alloc ?_ _)); refine blk_put (cs := #[.int .i64 t320, .int .i64 0, .string (⟨#[]⟩ : ByteArray)]) ?_ 1 _ rfl; (with_reducible repeat (first | refine blk_drewN ?_ _ | refine blk_drew ?_ | refine blk_alloc ?_ _)); refine blk_put (cs := #[.int .i64 0, .int .i64 0, .string (⟨#[]⟩ : ByteArray)]) ?_ 0 _ rfl; (with_reducible repeat (first | refine blk_drewN ?_ _ | refine blk_drew ?_ | refine blk_alloc ?_ _)); refine blk_far ?_ NB324_323.out _; (with_reducible repeat (first | refine blk_drewN ?_ _ | refine blk_drew ?_ | refine blk_alloc ?_ _)); refine blk_far ?_ NB324_323.out _; (with_reducible repeat (first | refine blk_drewN ?_ _ | refine blk_drew ?_ | refine blk_alloc ?_ _)); refine blk_far ?_ NB324_323.out _; exact pkK BK324.out) hb); replace HB := am (below_step (pkW HB.out) hb); (try clear hb)))
     go_meet
     case rel => exact ⟨_, (true), rfx, H', ⟨by first | omega | exact Nat.le_refl _⟩, ⟨pkK BK309.out⟩, ⟨pkK BK310.out⟩, ⟨pkK BK323.out⟩, ⟨pkK BK324.out⟩, ⟨pkW HB.out⟩⟩
   case rest =>
    clear HC7
    try clear c1
    try clear c2
    try clear p2
    try clear c3
    try clear c4
    try clear c5
    try clear c8
    try clear c11
    try clear c13
    try clear c21
    try clear c22
    try clear c23
    try clear c24
    try clear c25
    try clear c26
    try clear c29
    try clear c31
    try clear c32
    try clear c33
    try clear c36
    try clear c37
    try clear c40
    try clear c41
    try clear c42
    try clear hcz12_0
    try clear hcz12_1
    try clear hcz12_2
    try clear hcz13_0
    try clear hcz13_1
    try clear hcz13_2
    try clear hcz24_0
    try clear hcz24_1
    try clear hcz24_2
    try clear hcz27_0
    try clear hcz27_1
    try clear hcz27_2
    try clear hcz34_0
    try clear hcz34_1
    try clear hcz34_2
    try clear hcz38_0
    try clear hcz38_1
    try clear hcz38_2
    try clear hcz43_0
    try clear hcz43_1
    try clear hcz43_2
    try clear hfz12_0
    try clear hfz12_1
    try clear hfz12_2
    try clear hfz13_0
    try clear hfz13_1
    try clear hfz13_2
    try clear hfz24_0
    try clear hfz24_1
    try clear hfz24_2
    try clear hfz27_0
    try clear hfz27_1
    try clear hfz27_2
    try clear hfz34_0
    try clear hfz34_1
    try clear hfz34_2
    try clear hfz38_0
    try clear hfz38_1
    try clear hfz38_2
    try clear hfz43_0
    try clear hfz43_1
    try clear hfz43_2
    obtain ⟨kq, x30_6, rfl, HA, HJ6, BK309, BK310, BK323, BK324, HB⟩ := hcut
    cases kq with
    | zero => exact absurd HA.out (by simp [laws_FnOrder.j0])
    | succ kj6 =>
     have H := HA.out
     clear HA
     simp only [laws_FnOrder.j0] at H
     by_cases c45 : x30_6 = true
     ·subst c45
      replace H : ((impl_MsgLess.f kj6 t303 t304 t305 t306 t307 t308).bind fun t327 => (if t327 = true then (some false) else ((impl_MsgLess.f kj6 t306 t307 t308 t303 t304 t305).bind fun t328 => (some (!t328))))) = some r := by rw [if_pos rfl] at H; exact H
      replace H := Option.bind_eq_some_iff.mp H
      obtain ⟨t327, A460, H⟩ := H
      replace H : (if t327 = true then (some false) else ((impl_MsgLess.f kj6 t306 t307 t308 t303 t304 t305).bind fun t328 => (some (!t328)))) = some r := H
      have A46 := am A460
      clear A460
      by_cases c47 : t327 = true
      ·subst c47
       replace H : (some false) = some r := by rw [if_pos rfl] at H; exact H
       exact absurd (Option.some.inj H) (by rw [HQ_.out]; simp)
      ·replace c47 := Bool.eq_false_iff.mpr c47
       subst c47
       replace H : ((impl_MsgLess.f kj6 t306 t307 t308 t303 t304 t305).bind fun t328 => (some (!t328))) = some r := by rw [if_neg (show ¬ (false = true) by decide)] at H; exact H
       replace H := Option.bind_eq_some_iff.mp H
       obtain ⟨t328, A480, H⟩ := H
       replace H : (some (!t328)) = some r := H
       have A48 := am A480
       clear A480
       obtain rfl := Option.some.inj H
       have hnb49 := NB309_310.out
       have hnc49 := NB310_309.out
       have hnb50 := NB309_323.out
       have hnc50 := NB323_309.out
       have hnb51 := NB309_324.out
       have hnc51 := NB324_309.out
       obtain ⟨hcz52_0, hcz52_1, hcz52_2, hfz52_0, hfz52_1, hfz52_2⟩ := bk3 BK309.out
       have hnb53 := NB310_323.out
       have hnc53 := NB323_310.out
       have hnb54 := NB310_324.out
       have hnc54 := NB324_310.out
       obtain ⟨hcz55_0, hcz55_1, hcz55_2, hfz55_0, hfz55_1, hfz55_2⟩ := bk3 BK310.out
       go_wp2_with (first | ((with_reducible refine gate_callee (f := 19) rfl ?_); refine goesL_ (some 33) rfl rfl Try.func19 (by kernel_rfl) rfl #[.agg #[.int .i64 t303, .int .i64 t304, .string t305], .agg #[.int .i64 t306, .int .i64 t307, .string t308]] rfl mpx ?_; (with_reducible refine (impl_MsgLess.calls kj6 t303 t304 t305 t306 t307 t308 false _ A46.out).mono ?_); rintro e w56 ⟨rfl, hb⟩; refine ⟨_, rfl, ?_⟩; replace BK309 := am (blk_below (pkK BK309.out) hb); replace BK310 := am (blk_below (pkK BK310.out) hb); replace BK323 := am (blk_below (pkK BK323.out) hb); replace BK324 := am (blk_below (pkK BK324.out) hb); replace HB := am (below_step (pkW HB.out) hb); (try clear hb); obtain ⟨hcz57_0, hcz57_1, hcz57_2, hfz57_0, hfz57_1, hfz57_2⟩ := bk3 BK310.out; obtain ⟨hcz58_0, hcz58_1, hcz58_2, hfz58_0, hfz58_1, hfz58_2⟩ := bk3 BK309.out) | (go_at_call 19; (with_reducible refine (impl_MsgLess.calls kj6 t306 t307 t308 t303 t304 t305 t328 _ A48.out).mono ?_); rintro e w59 ⟨rfl, hb⟩; replace BK309 := am (blk_below (pkK BK309.out) hb); replace BK310 := am (blk_below (pkK BK310.out) hb); replace BK323 := am (blk_below (pkK BK323.out) hb); replace BK324 := am (blk_below (pkK BK324.out) hb); replace HB := am (below_step (pkW HB.out) hb); (try clear hb)))
       go_ret
       exact ⟨rfe, pkW HB.out⟩
     ·replace c45 := Bool.eq_false_iff.mpr c45
      subst c45
      replace H : ((impl_MsgLess.f kj6 t303 t304 t305 t306 t307 t308).bind fun t329 => ((impl_MsgLess.f kj6 t306 t307 t308 t303 t304 t305).bind fun t330 => (if t329 = true then (if t330 = true then (laws_FnOrder.j1 kj6 t329 true t303 t304 t305 t306 t307 t308 t320 t321 t322) else ((spec_MsgLess.f kj6 t303 t304 t305 t306 t307 t308).bind fun t331 => (if (t329 != t331) = true then (laws_FnOrder.j1 kj6 t329 true t303 t304 t305 t306 t307 t308 t320 t321 t322) else (laws_FnOrder.j1 kj6 t329 false t303 t304 t305 t306 t307 t308 t320 t321 t322)))) else ((spec_MsgLess.f kj6 t303 t304 t305 t306 t307 t308).bind fun t332 => (if (t329 != t332) = true then (laws_FnOrder.j1 kj6 t329 true t303 t304 t305 t306 t307 t308 t320 t321 t322) else (if t330 = true then (laws_FnOrder.j1 kj6 t329 false t303 t304 t305 t306 t307 t308 t320 t321 t322) else (laws_FnOrder.j1 kj6 t329 (!(t303 == t306) || (!(t304 == t307) || (!(t305.toList == t308.toList)))) t303 t304 t305 t306 t307 t308 t320 t321 t322))))))) = some r := by rw [if_neg (show ¬ (false = true) by decide)] at H; exact H
      replace H := Option.bind_eq_some_iff.mp H
      obtain ⟨t329, A600, H⟩ := H
      replace H : ((impl_MsgLess.f kj6 t306 t307 t308 t303 t304 t305).bind fun t330 => (if t329 = true then (if t330 = true then (laws_FnOrder.j1 kj6 t329 true t303 t304 t305 t306 t307 t308 t320 t321 t322) else ((spec_MsgLess.f kj6 t303 t304 t305 t306 t307 t308).bind fun t331 => (if (t329 != t331) = true then (laws_FnOrder.j1 kj6 t329 true t303 t304 t305 t306 t307 t308 t320 t321 t322) else (laws_FnOrder.j1 kj6 t329 false t303 t304 t305 t306 t307 t308 t320 t321 t322)))) else ((spec_MsgLess.f kj6 t303 t304 t305 t306 t307 t308).bind fun t332 => (if (t329 != t332) = true then (laws_FnOrder.j1 kj6 t329 true t303 t304 t305 t306 t307 t308 t320 t321 t322) else (if t330 = true then (laws_FnOrder.j1 kj6 t329 false t303 t304 t305 t306 t307 t308 t320 t321 t322) else (laws_FnOrder.j1 kj6 t329 (!(t303 == t306) || (!(t304 == t307) || (!(t305.toList == t308.toList)))) t303 t304 t305 t306 t307 t308 t320 t321 t322)))))) = some r := H
      have A60 := am A600
      clear A600
      replace H := Option.bind_eq_some_iff.mp H
      obtain ⟨t330, A610, H⟩ := H
      replace H : (if t329 = true then (if t330 = true then (laws_FnOrder.j1 kj6 t329 true t303 t304 t305 t306 t307 t308 t320 t321 t322) else ((spec_MsgLess.f kj6 t303 t304 t305 t306 t307 t308).bind fun t331 => (if (t329 != t331) = true then (laws_FnOrder.j1 kj6 t329 true t303 t304 t305 t306 t307 t308 t320 t321 t322) else (laws_FnOrder.j1 kj6 t329 false t303 t304 t305 t306 t307 t308 t320 t321 t322)))) else ((spec_MsgLess.f kj6 t303 t304 t305 t306 t307 t308).bind fun t332 => (if (t329 != t332) = true then (laws_FnOrder.j1 kj6 t329 true t303 t304 t305 t306 t307 t308 t320 t321 t322) else (if t330 = true then (laws_FnOrder.j1 kj6 t329 false t303 t304 t305 t306 t307 t308 t320 t321 t322) else (laws_FnOrder.j1 kj6 t329 (!(t303 == t306) || (!(t304 == t307) || (!(t305.toList == t308.toList)))) t303 t304 t305 t306 t307 t308 t320 t321 t322))))) = some r := H
      have A61 := am A610
      clear A610
      have HC62 := am H
      clear H
      try go_wp2
      replace BK309 := am (blk_drew BK309.out)
      replace BK310 := am (blk_drew BK310.out)
      replace BK323 := am (blk_drew BK323.out)
      replace BK324 := am (blk_drew BK324.out)
      replace HB := am (below_drew1 HB.out)
      refine start_ (n := 8) (S := fun w' => w'.cell? ⟨gb309, 0, none⟩ = some (.int .i64 t303) ∧ w'.cell? ⟨gb309, 1, none⟩ = some (.int .i64 t304) ∧ w'.cell? ⟨gb309, 2, none⟩ = some (.string t305) ∧ w'.cell? ⟨gb310, 0, none⟩ = some (.int .i64 t306) ∧ w'.cell? ⟨gb310, 1, none⟩ = some (.int .i64 t307) ∧ w'.cell? ⟨gb310, 2, none⟩ = some (.string t308)) (ds := []) #[false, false, false, false, false, false, false, false] (by kernel_rfl) rfl rfl ⟨(blk_cell BK309.out 0).trans rfl, (blk_cell BK309.out 1).trans rfl, (blk_cell BK309.out 2).trans rfl, (blk_cell BK310.out 0).trans rfl, (blk_cell BK310.out 1).trans rfl, (blk_cell BK310.out 2).trans rfl⟩ (fun hHeld => ?_); refine with_tabW laws_FnOrder.tab7 laws_FnOrder.bits7 (fun HT_ HW_ => ?_)
      generalize wc.drew = w63 at BK309 BK310 BK323 BK324 HB hHeld ⊢
      refine take_ (i := 0) (N := some 41) (v := ?_) (a' := ?_) #[true, false, false, false, false, false, false, false] rfl rfl (take_ofW HT_.out HW_.out (by kernel_rfl)) (fun _ _ _ h => h) (Or.inl ⟨by rfl, ?_⟩) hHeld ?_ ?_
      rotate_left
      ·rintro w' ⟨s0, s1, s2, s3, s4, s5⟩
       go_simp
       with_reducible rfl
      rotate_left
      ·simp only [Act.put, List.setIfInBounds_toArray, List.set_cons_zero, List.set_cons_succ, i64_w, i32_w]
       rfl
      refine take_ (i := 1) (N := some 42) (v := ?_) (a' := ?_) #[true, true, false, false, false, false, false, false] rfl rfl (take_ofW HT_.out HW_.out (by kernel_rfl)) (fun _ _ _ h => h) (Or.inl ⟨by rfl, ?_⟩) hHeld ?_ ?_
      rotate_left
      ·rintro w' ⟨s0, s1, s2, s3, s4, s5⟩
       go_simp
       with_reducible rfl
      rotate_left
      ·simp only [Act.put, List.setIfInBounds_toArray, List.set_cons_zero, List.set_cons_succ, i64_w, i32_w]
       rfl
      refine take_ (i := 3) (N := some 44) (v := ?_) (a' := ?_) #[true, true, false, true, false, false, false, false] rfl rfl (take_ofW HT_.out HW_.out (by kernel_rfl)) (fun _ _ _ h => h) (Or.inl ⟨by rfl, ?_⟩) hHeld ?_ ?_
      rotate_left
      ·rintro w' ⟨s0, s1, s2, s3, s4, s5⟩
       go_simp
       with_reducible rfl
      rotate_left
      ·simp only [Act.put, List.setIfInBounds_toArray, List.set_cons_zero, List.set_cons_succ, i64_w, i32_w]
       rfl
      refine take_ (i := 4) (N := some 45) (v := ?_) (a' := ?_) #[true, true, false, true, true, false, false, false] rfl rfl (take_ofW HT_.out HW_.out (by kernel_rfl)) (fun _ _ _ h => h) (Or.inl ⟨by rfl, ?_⟩) hHeld ?_ ?_
      rotate_left
      ·rintro w' ⟨s0, s1, s2, s3, s4, s5⟩
       go_simp
       with_reducible rfl
      rotate_left
      ·simp only [Act.put, List.setIfInBounds_toArray, List.set_cons_zero, List.set_cons_succ, i64_w, i32_w]
       rfl
      refine one_ (i := 2) (N := some 43) #[true, true, true, true, true, false, false, false] rfl rfl (one_of HT_.out (by kernel_rfl)) (by decide) (fun K hK => ?_)
      refine goes_ Try.func19 (by kernel_rfl) rfl #[.agg #[.int .i64 t303, .int .i64 t304, .string t305], .agg #[.int .i64 t306, .int .i64 t307, .string t308]] (by rfl) rfl rfl mpx ?_
      with_reducible refine (impl_MsgLess.calls kj6 t303 t304 t305 t306 t307 t308 t329 _ A60.out).mono ?_
      rintro e w64 ⟨rfl, hb⟩
      refine ⟨_, rfl, ?_⟩
      replace BK309 := am (blk_below (pkK BK309.out) hb)
      replace BK310 := am (blk_below (pkK BK310.out) hb)
      replace BK323 := am (blk_below (pkK BK323.out) hb)
      replace BK324 := am (blk_below (pkK BK324.out) hb)
      replace HB := am (below_step (pkW HB.out) hb)
      (try clear hb)
      refine hK.out _ _ ⟨(blk_cell BK309.out 0).trans rfl, (blk_cell BK309.out 1).trans rfl, (blk_cell BK309.out 2).trans rfl, (blk_cell BK310.out 0).trans rfl, (blk_cell BK310.out 1).trans rfl, (blk_cell BK310.out 2).trans rfl⟩ (fun hHeld => ?_)
      clear hK K
      refine norm_ (a' := ?_) ?_ ?_
      rotate_left
      ·show Act.put _ (some 43) _ = _
       simp only [Act.put, List.setIfInBounds_toArray, List.set_cons_zero, List.set_cons_succ, i64_w, i32_w]
       rfl
      refine one_ (i := 5) (N := some 46) #[true, true, true, true, true, true, false, false] rfl rfl (one_of HT_.out (by kernel_rfl)) (by decide) (fun K hK => ?_)
      refine goes_ Try.func19 (by kernel_rfl) rfl #[.agg #[.int .i64 t306, .int .i64 t307, .string t308], .agg #[.int .i64 t303, .int .i64 t304, .string t305]] (by rfl) rfl rfl mpx ?_
      with_reducible refine (impl_MsgLess.calls kj6 t306 t307 t308 t303 t304 t305 t330 _ A61.out).mono ?_
      rintro e w65 ⟨rfl, hb⟩
      refine ⟨_, rfl, ?_⟩
      replace BK309 := am (blk_below (pkK BK309.out) hb)
      replace BK310 := am (blk_below (pkK BK310.out) hb)
      replace BK323 := am (blk_below (pkK BK323.out) hb)
      replace BK324 := am (blk_below (pkK BK324.out) hb)
      replace HB := am (below_step (pkW HB.out) hb)
      (try clear hb)
      refine hK.out _ _ ⟨(blk_cell BK309.out 0).trans rfl, (blk_cell BK309.out 1).trans rfl, (blk_cell BK309.out 2).trans rfl, (blk_cell BK310.out 0).trans rfl, (blk_cell BK310.out 1).trans rfl, (blk_cell BK310.out 2).trans rfl⟩ (fun hHeld => ?_)
      clear hK K
      refine norm_ (a' := ?_) ?_ ?_
      rotate_left
      ·show Act.put _ (some 46) _ = _
       simp only [Act.put, List.setIfInBounds_toArray, List.set_cons_zero, List.set_cons_succ, i64_w, i32_w]
       rfl
      refine pure_ (i := 6) (N := some 7) (v := ?_) (a' := ?_) #[true, true, true, true, true, true, true, false] rfl rfl (any_of HT_.out (by kernel_rfl)) (fun _ _ _ h => h) (Or.inl ⟨by rfl, ?_⟩) ?_ ?_
      rotate_left
      ·intro w'
       go_simp
       with_reducible rfl
      rotate_left
      ·simp only [Act.put, List.setIfInBounds_toArray, List.set_cons_zero, List.set_cons_succ, i64_w, i32_w]
       rfl
      refine pure_ (i := 7) (N := some 8) (v := ?_) (a' := ?_) #[true, true, true, true, true, true, true, true] rfl rfl (any_of HT_.out (by kernel_rfl)) (fun _ _ _ h => h) (Or.inl ⟨by rfl, ?_⟩) ?_ ?_
      rotate_left
      ·intro w'
       go_simp
       with_reducible rfl
      rotate_left
      ·simp only [Act.put, List.setIfInBounds_toArray, List.set_cons_zero, List.set_cons_succ, i64_w, i32_w]
       rfl
      refine done_ (done_of HT_.out (by kernel_rfl)) ?_
      go_upto_region 8 with (fail)
      go_cut [70] (fun v70 wc => ∃ (kq : Nat) (x70_61 : Bool), v70 = .bool x70_61 ∧ Aside0 (laws_FnOrder.j1 kq t329 x70_61 t303 t304 t305 t306 t307 t308 t320 t321 t322 = some r) ∧ Aside0 (kq ≤ kj6) ∧ Aside0 (wc.heap[gb309]? = some (.cells #[.int .i64 t303, .int .i64 t304, .string t305] 27 (0, 0))) ∧ Aside0 (wc.heap[gb310]? = some (.cells #[.int .i64 t306, .int .i64 t307, .string t308] 27 (0, 0))) ∧ Aside0 (wc.heap[gb323]? = some (.cells #[.int .i64 t317, .int .i64 t318, .string t319] 27 (0, 0))) ∧ Aside0 (wc.heap[gb324]? = some (.cells #[.int .i64 t320, .int .i64 t321, .string t322] 27 (0, 0))) ∧ Aside0 (Below w.heap.size w wc))
      case first =>
       have H := HC62.out
       clear HC62
       by_cases c66 : t329 = true
       ·subst c66
        replace H : (if t330 = true then (laws_FnOrder.j1 kj6 true true t303 t304 t305 t306 t307 t308 t320 t321 t322) else ((spec_MsgLess.f kj6 t303 t304 t305 t306 t307 t308).bind fun t331 => (if (true != t331) = true then (laws_FnOrder.j1 kj6 true true t303 t304 t305 t306 t307 t308 t320 t321 t322) else (laws_FnOrder.j1 kj6 true false t303 t304 t305 t306 t307 t308 t320 t321 t322)))) = some r := by rw [if_pos rfl] at H; exact H
        by_cases c67 : t330 = true
        ·subst c67
         replace H : (laws_FnOrder.j1 kj6 true true t303 t304 t305 t306 t307 t308 t320 t321 t322) = some r := by rw [if_pos rfl] at H; exact H
         cases kj6 with
         | zero => exact absurd H (by simp [laws_FnOrder.j1])
         | succ k_ => (simp only [laws_FnOrder.j1, if_pos] at H; exact absurd (Option.some.inj H) (by rw [HQ_.out]; simp))
        ·replace c67 := Bool.eq_false_iff.mpr c67
         subst c67
         replace H : ((spec_MsgLess.f kj6 t303 t304 t305 t306 t307 t308).bind fun t331 => (if (true != t331) = true then (laws_FnOrder.j1 kj6 true true t303 t304 t305 t306 t307 t308 t320 t321 t322) else (laws_FnOrder.j1 kj6 true false t303 t304 t305 t306 t307 t308 t320 t321 t322))) = some r := by rw [if_neg (show ¬ (false = true) by decide)] at H; exact H
         replace H := Option.bind_eq_some_iff.mp H
         obtain ⟨t331, A680, H⟩ := H
         replace H : (if (true != t331) = true then (laws_FnOrder.j1 kj6 true true t303 t304 t305 t306 t307 t308 t320 t321 t322) else (laws_FnOrder.j1 kj6 true false t303 t304 t305 t306 t307 t308 t320 t321 t322)) = some r := H
         have A68 := am A680
         clear A680
         by_cases c69 : (true != t331) = true
         ·rw [if_pos c69] at H
          have c69b0 : (true != t331) = true := c69
          (try (have c69b1 : decide (true = t331) = false := by simpa using c69))
          (try (have c69b2 : (true == t331) = false := by first | exact bq_t c69 | exact bq_f c69 | simpa using c69))
          (try (have c69b3 : ¬ (true = t331) := by simpa using c69))
          clear c69
          (first | rw [c69b0] | (simp only [i64_w, i32_w]; rw [c69b0]) | skip)
          cases kj6 with
          | zero => exact absurd H (by simp [laws_FnOrder.j1])
          | succ k_ => (simp only [laws_FnOrder.j1, if_pos] at H; exact absurd (Option.some.inj H) (by rw [HQ_.out]; simp))
         ·rw [if_neg c69] at H
          have c69b0 : (true != t331) = false := by simpa using c69
          (try (have c69b1 : decide (true = t331) = true := by simpa using c69))
          (try (have c69b2 : (true == t331) = true := by first | exact bq_t c69 | exact bq_f c69 | simpa using c69))
          clear c69
          (first | rw [c69b0] | (simp only [i64_w, i32_w]; rw [c69b0]) | skip)
          have H' := am H
          clear H
          have hnb70 := NB309_310.out
          have hnc70 := NB310_309.out
          have hnb71 := NB309_323.out
          have hnc71 := NB323_309.out
          have hnb72 := NB309_324.out
          have hnc72 := NB324_309.out
          obtain ⟨hcz73_0, hcz73_1, hcz73_2, hfz73_0, hfz73_1, hfz73_2⟩ := bk3 BK309.out
          have hnb74 := NB310_323.out
          have hnc74 := NB323_310.out
          have hnb75 := NB310_324.out
          have hnc75 := NB324_310.out
          obtain ⟨hcz76_0, hcz76_1, hcz76_2, hfz76_0, hfz76_1, hfz76_2⟩ := bk3 BK310.out
          go_wp2_with (first | (go_at_call 18; (with_reducible refine (spec_MsgLess.calls kj6 t303 t304 t305 t306 t307 t308 t331 _ A68.out).mono ?_); rintro e w77 ⟨rfl, hb⟩; replace BK309 := am (blk_below (pkK BK309.out) hb); replace BK310 := am (blk_below (pkK BK310.out) hb); replace BK323 := am (blk_below (pkK BK323.out) hb); replace BK324 := am (blk_below (pkK BK324.out) hb); replace HB := am (below_step (pkW HB.out) hb); (try clear hb)))
          go_meet
          case rel => exact ⟨_, (false), rfx, H', ⟨by have := HJ6.out; first | omega | exact Nat.le_refl _⟩, ⟨pkK BK309.out⟩, ⟨pkK BK310.out⟩, ⟨pkK BK323.out⟩, ⟨pkK BK324.out⟩, ⟨pkW HB.out⟩⟩
       ·replace c66 := Bool.eq_false_iff.mpr c66
        subst c66
        replace H : ((spec_MsgLess.f kj6 t303 t304 t305 t306 t307 t308).bind fun t332 => (if (false != t332) = true then (laws_FnOrder.j1 kj6 false true t303 t304 t305 t306 t307 t308 t320 t321 t322) else (if t330 = true then (laws_FnOrder.j1 kj6 false false t303 t304 t305 t306 t307 t308 t320 t321 t322) else (laws_FnOrder.j1 kj6 false (!(t303 == t306) || (!(t304 == t307) || (!(t305.toList == t308.toList)))) t303 t304 t305 t306 t307 t308 t320 t321 t322)))) = some r := by rw [if_neg (show ¬ (false = true) by decide)] at H; exact H
        replace H := Option.bind_eq_some_iff.mp H
        obtain ⟨t332, A780, H⟩ := H
        replace H : (if (false != t332) = true then (laws_FnOrder.j1 kj6 false true t303 t304 t305 t306 t307 t308 t320 t321 t322) else (if t330 = true then (laws_FnOrder.j1 kj6 false false t303 t304 t305 t306 t307 t308 t320 t321 t322) else (laws_FnOrder.j1 kj6 false (!(t303 == t306) || (!(t304 == t307) || (!(t305.toList == t308.toList)))) t303 t304 t305 t306 t307 t308 t320 t321 t322))) = some r := H
        have A78 := am A780
        clear A780
        by_cases c79 : (false != t332) = true
        ·rw [if_pos c79] at H
         have c79b0 : (false != t332) = true := c79
         (try (have c79b1 : decide (false = t332) = false := by simpa using c79))
         (try (have c79b2 : (false == t332) = false := by first | exact bq_t c79 | exact bq_f c79 | simpa using c79))
         (try (have c79b3 : ¬ (false = t332) := by simpa using c79))
         clear c79
         cases kj6 with
         | zero => exact absurd H (by simp [laws_FnOrder.j1])
         | succ k_ => (simp only [laws_FnOrder.j1, if_pos] at H; exact absurd (Option.some.inj H) (by rw [HQ_.out]; simp))
        ·rw [if_neg c79] at H
         have c79b0 : (false != t332) = false := by simpa using c79
         (try (have c79b1 : decide (false = t332) = true := by simpa using c79))
         (try (have c79b2 : (false == t332) = true := by first | exact bq_t c79 | exact bq_f c79 | simpa using c79))
         clear c79
         by_cases c80 : t330 = true
         ·subst c80
          replace H : (laws_FnOrder.j1 kj6 false false t303 t304 t305 t306 t307 t308 t320 t321 t322) = some r := by rw [if_pos rfl] at H; exact H
          have H' := am H
          clear H
          have hnb81 := NB309_310.out
          have hnc81 := NB310_309.out
          have hnb82 := NB309_323.out
          have hnc82 := NB323_309.out
          have hnb83 := NB309_324.out
          have hnc83 := NB324_309.out
          obtain ⟨hcz84_0, hcz84_1, hcz84_2, hfz84_0, hfz84_1, hfz84_2⟩ := bk3 BK309.out
          have hnb85 := NB310_323.out
          have hnc85 := NB323_310.out
          have hnb86 := NB310_324.out
          have hnc86 := NB324_310.out
          obtain ⟨hcz87_0, hcz87_1, hcz87_2, hfz87_0, hfz87_1, hfz87_2⟩ := bk3 BK310.out
          go_wp2_with (first | (go_at_call 18; (with_reducible refine (spec_MsgLess.calls kj6 t303 t304 t305 t306 t307 t308 t332 _ A78.out).mono ?_); rintro e w88 ⟨rfl, hb⟩; replace BK309 := am (blk_below (pkK BK309.out) hb); replace BK310 := am (blk_below (pkK BK310.out) hb); replace BK323 := am (blk_below (pkK BK323.out) hb); replace BK324 := am (blk_below (pkK BK324.out) hb); replace HB := am (below_step (pkW HB.out) hb); (try clear hb)))
          go_meet
          case rel => exact ⟨_, (false), rfx, H', ⟨by have := HJ6.out; first | omega | exact Nat.le_refl _⟩, ⟨pkK BK309.out⟩, ⟨pkK BK310.out⟩, ⟨pkK BK323.out⟩, ⟨pkK BK324.out⟩, ⟨pkW HB.out⟩⟩
         ·replace c80 := Bool.eq_false_iff.mpr c80
          subst c80
          replace H : (laws_FnOrder.j1 kj6 false (!(t303 == t306) || (!(t304 == t307) || (!(t305.toList == t308.toList)))) t303 t304 t305 t306 t307 t308 t320 t321 t322) = some r := by rw [if_neg (show ¬ (false = true) by decide)] at H; exact H
          have H' := am H
          clear H
          have hnb89 := NB309_310.out
          have hnc89 := NB310_309.out
          have hnb90 := NB309_323.out
          have hnc90 := NB323_309.out
          have hnb91 := NB309_324.out
          have hnc91 := NB324_309.out
          obtain ⟨hcz92_0, hcz92_1, hcz92_2, hfz92_0, hfz92_1, hfz92_2⟩ := bk3 BK309.out
          have hnb93 := NB310_323.out
          have hnc93 := NB323_310.out
          have hnb94 := NB310_324.out
          have hnc94 := NB324_310.out
          obtain ⟨hcz95_0, hcz95_1, hcz95_2, hfz95_0, hfz95_1, hfz95_2⟩ := bk3 BK310.out
          go_wp2_with (first | (go_at_call 18; (with_reducible refine (spec_MsgLess.calls kj6 t303 t304 t305 t306 t307 t308 t332 _ A78.out).mono ?_); rintro e w96 ⟨rfl, hb⟩; replace BK309 := am (blk_below (pkK BK309.out) hb); replace BK310 := am (blk_below (pkK BK310.out) hb); replace BK323 := am (blk_below (pkK BK323.out) hb); replace BK324 := am (blk_below (pkK BK324.out) hb); replace HB := am (below_step (pkW HB.out) hb); (try clear hb); obtain ⟨hcz97_0, hcz97_1, hcz97_2, hfz97_0, hfz97_1, hfz97_2⟩ := bk3 BK309.out; obtain ⟨hcz98_0, hcz98_1, hcz98_2, hfz98_0, hfz98_1, hfz98_2⟩ := bk3 BK310.out))
          go_meet
          case rel => exact ⟨_, ((!(t303 == t306) || (!(t304 == t307) || (!(t305.toList == t308.toList))))), rfx, H', ⟨by have := HJ6.out; first | omega | exact Nat.le_refl _⟩, ⟨pkK BK309.out⟩, ⟨pkK BK310.out⟩, ⟨pkK BK323.out⟩, ⟨pkK BK324.out⟩, ⟨pkW HB.out⟩⟩
      case rest =>
       clear HC62
       try clear c1
       try clear c2
       try clear p2
       try clear c3
       try clear c4
       try clear c5
       try clear c6
       try clear c7
       try clear c8
       try clear c9
       try clear c11
       try clear c13
       try clear c19
       try clear c21
       try clear c22
       try clear c23
       try clear c24
       try clear c25
       try clear c26
       try clear c29
       try clear c31
       try clear c32
       try clear c33
       try clear c36
       try clear c37
       try clear c40
       try clear c41
       try clear c42
       try clear c45
       try clear c47
       try clear c49
       try clear c50
       try clear c51
       try clear c53
       try clear c54
       try clear c66
       try clear c67
       try clear c69
       try clear c69b0
       try clear c69b1
       try clear c69b2
       try clear c70
       try clear c71
       try clear c72
       try clear c74
       try clear c75
       try clear c79
       try clear c79b0
       try clear c79b1
       try clear c79b2
       try clear c80
       try clear c81
       try clear c82
       try clear c83
       try clear c85
       try clear c86
       try clear c89
       try clear c90
       try clear c91
       try clear c93
       try clear c94
       try clear hcz12_0
       try clear hcz12_1
       try clear hcz12_2
       try clear hcz13_0
       try clear hcz13_1
       try clear hcz13_2
       try clear hcz24_0
       try clear hcz24_1
       try clear hcz24_2
       try clear hcz27_0
       try clear hcz27_1
       try clear hcz27_2
       try clear hcz34_0
       try clear hcz34_1
       try clear hcz34_2
       try clear hcz38_0
       try clear hcz38_1
       try clear hcz38_2
       try clear hcz43_0
       try clear hcz43_1
       try clear hcz43_2
       try clear hcz52_0
       try clear hcz52_1
       try clear hcz52_2
       try clear hcz55_0
       try clear hcz55_1
       try clear hcz55_2
       try clear hcz57_0
       try clear hcz57_1
       try clear hcz57_2
       try clear hcz58_0
       try clear hcz58_1
       try clear hcz58_2
       try clear hcz73_0
       try clear hcz73_1
       try clear hcz73_2
       try clear hcz76_0
       try clear hcz76_1
       try clear hcz76_2
       try clear hcz84_0
       try clear hcz84_1
       try clear hcz84_2
       try clear hcz87_0
       try clear hcz87_1
       try clear hcz87_2
       try clear hcz92_0
       try clear hcz92_1
       try clear hcz92_2
       try clear hcz95_0
       try clear hcz95_1
       try clear hcz95_2
       try clear hcz97_0
       try clear hcz97_1
       try clear hcz97_2
       try clear hcz98_0
       try clear hcz98_1
       try clear hcz98_2
       try clear hfz12_0
       try clear hfz12_1
       try clear hfz12_2
       try clear hfz13_0
       try clear hfz13_1
       try clear hfz13_2
       try clear hfz24_0
       try clear hfz24_1
       try clear hfz24_2
       try clear hfz27_0
       try clear hfz27_1
       try clear hfz27_2
       try clear hfz34_0
       try clear hfz34_1
       try clear hfz34_2
       try clear hfz38_0
       try clear hfz38_1
       try clear hfz38_2
       try clear hfz43_0
       try clear hfz43_1
       try clear hfz43_2
       try clear hfz52_0
       try clear hfz52_1
       try clear hfz52_2
       try clear hfz55_0
       try clear hfz55_1
       try clear hfz55_2
       try clear hfz57_0
       try clear hfz57_1
       try clear hfz57_2
       try clear hfz58_0
       try clear hfz58_1
       try clear hfz58_2
       try clear hfz73_0
       try clear hfz73_1
       try clear hfz73_2
       try clear hfz76_0
       try clear hfz76_1
       try clear hfz76_2
       try clear hfz84_0
       try clear hfz84_1
       try clear hfz84_2
       try clear hfz87_0
       try clear hfz87_1
       try clear hfz87_2
       try clear hfz92_0
       try clear hfz92_1
       try clear hfz92_2
       try clear hfz95_0
       try clear hfz95_1
       try clear hfz95_2
       try clear hfz97_0
       try clear hfz97_1
       try clear hfz97_2
       try clear hfz98_0
       try clear hfz98_1
       try clear hfz98_2
       try clear p2
       obtain ⟨kq, x70_61, rfl, HA, HJ61, BK309, BK310, BK323, BK324, HB⟩ := hcut
       cases kq with
       | zero => exact absurd HA.out (by simp [laws_FnOrder.j1])
       | succ kj61 =>
        have H := HA.out
        clear HA
        simp only [laws_FnOrder.j1] at H
        by_cases c99 : x70_61 = true
        ·subst c99
         replace H : (some false) = some r := by rw [if_pos rfl] at H; exact H
         exact absurd (Option.some.inj H) (by rw [HQ_.out]; simp)
        ·replace c99 := Bool.eq_false_iff.mpr c99
         subst c99
         replace H : ((spec_MsgOk.f kj61 t320 t321 t322).bind fun t333 => (if t333 = true then (if t329 = true then ((impl_MsgLess.f kj61 t306 t307 t308 t320 t321 t322).bind fun t334 => (if t334 = true then ((impl_MsgLess.f kj61 t303 t304 t305 t320 t321 t322).bind fun t335 => (some t335)) else (some true))) else (some true)) else (some true))) = some r := by rw [if_neg (show ¬ (false = true) by decide)] at H; exact H
         replace H := Option.bind_eq_some_iff.mp H
         obtain ⟨t333, A1000, H⟩ := H
         replace H : (if t333 = true then (if t329 = true then ((impl_MsgLess.f kj61 t306 t307 t308 t320 t321 t322).bind fun t334 => (if t334 = true then ((impl_MsgLess.f kj61 t303 t304 t305 t320 t321 t322).bind fun t335 => (some t335)) else (some true))) else (some true)) else (some true)) = some r := H
         have A100 := am A1000
         clear A1000
         by_cases c101 : t333 = true
         ·subst c101
          replace H : (if t329 = true then ((impl_MsgLess.f kj61 t306 t307 t308 t320 t321 t322).bind fun t334 => (if t334 = true then ((impl_MsgLess.f kj61 t303 t304 t305 t320 t321 t322).bind fun t335 => (some t335)) else (some true))) else (some true)) = some r := by rw [if_pos rfl] at H; exact H
          by_cases c102 : t329 = true
          ·subst c102
           replace H : ((impl_MsgLess.f kj61 t306 t307 t308 t320 t321 t322).bind fun t334 => (if t334 = true then ((impl_MsgLess.f kj61 t303 t304 t305 t320 t321 t322).bind fun t335 => (some t335)) else (some true))) = some r := by rw [if_pos rfl] at H; exact H
           replace H := Option.bind_eq_some_iff.mp H
           obtain ⟨t334, A1030, H⟩ := H
           replace H : (if t334 = true then ((impl_MsgLess.f kj61 t303 t304 t305 t320 t321 t322).bind fun t335 => (some t335)) else (some true)) = some r := H
           have A103 := am A1030
           clear A1030
           by_cases c104 : t334 = true
           ·subst c104
            replace H : ((impl_MsgLess.f kj61 t303 t304 t305 t320 t321 t322).bind fun t335 => (some t335)) = some r := by rw [if_pos rfl] at H; exact H
            replace H := Option.bind_eq_some_iff.mp H
            obtain ⟨t335, A1050, H⟩ := H
            replace H : (some t335) = some r := H
            have A105 := am A1050
            clear A1050
            obtain rfl := Option.some.inj H
            have hnb106 := NB324_309.out
            have hnc106 := NB309_324.out
            have hnb107 := NB324_310.out
            have hnc107 := NB310_324.out
            have hnb108 := NB324_323.out
            have hnc108 := NB323_324.out
            obtain ⟨hcz109_0, hcz109_1, hcz109_2, hfz109_0, hfz109_1, hfz109_2⟩ := bk3 BK324.out
            go_wp2_with (first | ((with_reducible refine gate_callee (f := 13) rfl ?_); refine goesL_ (some 72) rfl rfl Try.func13 (by kernel_rfl) rfl #[.agg #[.int .i64 t320, .int .i64 t321, .string t322]] rfl mpx ?_; (with_reducible refine (spec_MsgOk.calls kj61 t320 t321 t322 true _ A100.out).mono ?_); rintro e w110 ⟨rfl, hb⟩; refine ⟨_, rfl, ?_⟩; replace BK309 := am (blk_below (pkK BK309.out) hb); replace BK310 := am (blk_below (pkK BK310.out) hb); replace BK323 := am (blk_below (pkK BK323.out) hb); replace BK324 := am (blk_below (pkK BK324.out) hb); replace HB := am (below_step (pkW HB.out) hb); (try clear hb); have hnb111 := NB310_309.out; have hnc111 := NB309_310.out; have hnb112 := NB310_323.out; have hnc112 := NB323_310.out; obtain ⟨hcz113_0, hcz113_1, hcz113_2, hfz113_0, hfz113_1, hfz113_2⟩ := bk3 BK310.out; obtain ⟨hcz114_0, hcz114_1, hcz114_2, hfz114_0, hfz114_1, hfz114_2⟩ := bk3 BK324.out) | (go_at_call 19; (with_reducible refine (impl_MsgLess.calls kj61 t306 t307 t308 t320 t321 t322 true _ A103.out).mono ?_); rintro e w115 ⟨rfl, hb⟩; replace BK309 := am (blk_below (pkK BK309.out) hb); replace BK310 := am (blk_below (pkK BK310.out) hb); replace BK323 := am (blk_below (pkK BK323.out) hb); replace BK324 := am (blk_below (pkK BK324.out) hb); replace HB := am (below_step (pkW HB.out) hb); (try clear hb); have hnb116 := NB309_323.out; have hnc116 := NB323_309.out; obtain ⟨hcz117_0, hcz117_1, hcz117_2, hfz117_0, hfz117_1, hfz117_2⟩ := bk3 BK309.out; obtain ⟨hcz118_0, hcz118_1, hcz118_2, hfz118_0, hfz118_1, hfz118_2⟩ := bk3 BK324.out) | (go_at_call 19; (with_reducible refine (impl_MsgLess.calls kj61 t303 t304 t305 t320 t321 t322 t335 _ A105.out).mono ?_); rintro e w119 ⟨rfl, hb⟩; replace BK309 := am (blk_below (pkK BK309.out) hb); replace BK310 := am (blk_below (pkK BK310.out) hb); replace BK323 := am (blk_below (pkK BK323.out) hb); replace BK324 := am (blk_below (pkK BK324.out) hb); replace HB := am (below_step (pkW HB.out) hb); (try clear hb)))
            go_ret
            exact ⟨rfe, pkW HB.out⟩
           ·replace c104 := Bool.eq_false_iff.mpr c104
            subst c104
            replace H : (some true) = some r := by rw [if_neg (show ¬ (false = true) by decide)] at H; exact H
            obtain rfl := Option.some.inj H
            have hnb120 := NB324_309.out
            have hnc120 := NB309_324.out
            have hnb121 := NB324_310.out
            have hnc121 := NB310_324.out
            have hnb122 := NB324_323.out
            have hnc122 := NB323_324.out
            obtain ⟨hcz123_0, hcz123_1, hcz123_2, hfz123_0, hfz123_1, hfz123_2⟩ := bk3 BK324.out
            go_wp2_with (first | ((with_reducible refine gate_callee (f := 13) rfl ?_); refine goesL_ (some 72) rfl rfl Try.func13 (by kernel_rfl) rfl #[.agg #[.int .i64 t320, .int .i64 t321, .string t322]] rfl mpx ?_; (with_reducible refine (spec_MsgOk.calls kj61 t320 t321 t322 true _ A100.out).mono ?_); rintro e w124 ⟨rfl, hb⟩; refine ⟨_, rfl, ?_⟩; replace BK309 := am (blk_below (pkK BK309.out) hb); replace BK310 := am (blk_below (pkK BK310.out) hb); replace BK323 := am (blk_below (pkK BK323.out) hb); replace BK324 := am (blk_below (pkK BK324.out) hb); replace HB := am (below_step (pkW HB.out) hb); (try clear hb); have hnb125 := NB310_309.out; have hnc125 := NB309_310.out; have hnb126 := NB310_323.out; have hnc126 := NB323_310.out; obtain ⟨hcz127_0, hcz127_1, hcz127_2, hfz127_0, hfz127_1, hfz127_2⟩ := bk3 BK310.out; obtain ⟨hcz128_0, hcz128_1, hcz128_2, hfz128_0, hfz128_1, hfz128_2⟩ := bk3 BK324.out) | (go_at_call 19; (with_reducible refine (impl_MsgLess.calls kj61 t306 t307 t308 t320 t321 t322 false _ A103.out).mono ?_); rintro e w129 ⟨rfl, hb⟩; replace BK309 := am (blk_below (pkK BK309.out) hb); replace BK310 := am (blk_below (pkK BK310.out) hb); replace BK323 := am (blk_below (pkK BK323.out) hb); replace BK324 := am (blk_below (pkK BK324.out) hb); replace HB := am (below_step (pkW HB.out) hb); (try clear hb)))
            go_ret
            exact ⟨rfe, pkW HB.out⟩
          ·replace c102 := Bool.eq_false_iff.mpr c102
           subst c102
           replace H : (some true) = some r := by rw [if_neg (show ¬ (false = true) by decide)] at H; exact H
           obtain rfl := Option.some.inj H
           have hnb130 := NB324_309.out
           have hnc130 := NB309_324.out
           have hnb131 := NB324_310.out
           have hnc131 := NB310_324.out
           have hnb132 := NB324_323.out
           have hnc132 := NB323_324.out
           obtain ⟨hcz133_0, hcz133_1, hcz133_2, hfz133_0, hfz133_1, hfz133_2⟩ := bk3 BK324.out
           go_wp2_with (first | ((with_reducible refine gate_callee (f := 13) rfl ?_); refine goesL_ (some 72) rfl rfl Try.func13 (by kernel_rfl) rfl #[.agg #[.int .i64 t320, .int .i64 t321, .string t322]] rfl mpx ?_; (with_reducible refine (spec_MsgOk.calls kj61 t320 t321 t322 true _ A100.out).mono ?_); rintro e w134 ⟨rfl, hb⟩; refine ⟨_, rfl, ?_⟩; replace BK309 := am (blk_below (pkK BK309.out) hb); replace BK310 := am (blk_below (pkK BK310.out) hb); replace BK323 := am (blk_below (pkK BK323.out) hb); replace BK324 := am (blk_below (pkK BK324.out) hb); replace HB := am (below_step (pkW HB.out) hb); (try clear hb)))
           go_ret
           exact ⟨rfe, pkW HB.out⟩
         ·replace c101 := Bool.eq_false_iff.mpr c101
          subst c101
          replace H : (some true) = some r := by rw [if_neg (show ¬ (false = true) by decide)] at H; exact H
          obtain rfl := Option.some.inj H
          have hnb135 := NB324_309.out
          have hnc135 := NB309_324.out
          have hnb136 := NB324_310.out
          have hnc136 := NB310_324.out
          have hnb137 := NB324_323.out
          have hnc137 := NB323_324.out
          obtain ⟨hcz138_0, hcz138_1, hcz138_2, hfz138_0, hfz138_1, hfz138_2⟩ := bk3 BK324.out
          go_wp2_with (first | ((with_reducible refine gate_callee (f := 13) rfl ?_); refine goesL_ (some 72) rfl rfl Try.func13 (by kernel_rfl) rfl #[.agg #[.int .i64 t320, .int .i64 t321, .string t322]] rfl mpx ?_; (with_reducible refine (spec_MsgOk.calls kj61 t320 t321 t322 false _ A100.out).mono ?_); rintro e w139 ⟨rfl, hb⟩; refine ⟨_, rfl, ?_⟩; replace BK309 := am (blk_below (pkK BK309.out) hb); replace BK310 := am (blk_below (pkK BK310.out) hb); replace BK323 := am (blk_below (pkK BK323.out) hb); replace BK324 := am (blk_below (pkK BK324.out) hb); replace HB := am (below_step (pkW HB.out) hb); (try clear hb)))
          go_ret
          exact ⟨rfe, pkW HB.out⟩
  ·rw [if_neg c5] at H
   exact absurd H (by simp)
end Go.Proofs.Ytalehmhjddnmoaa.Z
