/- The Go functions impl_Timer_49 as Lean functions, each with a proof that its code comes to just these answers; conditions: those of each theorem. -/
import Derived.Test.YtfgjfheiekhmlaaZx0
namespace Go.Proofs.Ytfgjfheiekhmlaa.Z
open Go.RowKit Go.Proofs.YtfgjfheiekhmlaaW.PrintWords Go.Proofs.YtfgjfheiekhmlaaW.PrintLast Go.Proofs.YtfgjfheiekhmlaaW.PrintMore
attribute [local go_sem] max2_int min2_int max_two min_two max_three min_three max_four min_four   -- for this text's walks alone
set_option linter.unusedVariables false
set_option linter.unusedSimpArgs false
section
variable {P : Program}
theorem run_copy_k (k : Nat) (w : World) (dT sT ty elem : TypeId) (b o dLen dCap : Nat) (a : Addr) (sLen sCap : Nat) (cs : List Value)
  (hu : P.underlying dT = some (.slice elem)) (hs : (P.info? elem).map (·.size) = some k) (hk : Nat.min sLen dLen * k = cs.length)
  (hsrc : ∀ j v, cs[j]? = some v → w.cell? (a.add j) = some v) (hc : ∀ j, j < cs.length → (w.cell? ⟨b, o + j, none⟩).isSome = true) (hf : ∀ j, j < cs.length → w.frozen? ⟨b, o + j, none⟩ = false) (h1 : ∀ v ∈ cs, v.oneCell' = true) :
  (Builtin.copy_ #[dT, sT] ty #[.slice (some ⟨b, o, none⟩) dLen dCap, .slice (some a) sLen sCap]).run P w = .ok (goInt (Nat.min sLen dLen)) (w.setCells b o cs) := by
 have hl := run_loadCells_list (P := P) w a cs hsrc
 have hst := run_storeCells_cells (P := P) b o cs 0 w (by simpa using hc) (by simpa using hf) h1
 cases hq : P.info? elem with
 | none => simp [hq] at hs
 | some i =>
  have hi : i.size = k := by simpa [hq] using hs
  have hk2 : min sLen dLen * k = cs.length := hk
  simp [Builtin.copy_, run_underlying hu, Builtin.lenOf, Builtin.firstCells, sizeOf, typeInfo, hq, hi, hk, hk2, hl, hst]
theorem wpList_copy_r (w : World) {ops : Array Oper} {rest : List Oper} {o : Oper} {a : Act} {Q : Exit → Act → World → Prop} (hgd : o.guard = none) (d s : Operand) (t t' : TypeId)
  (ho : o.op = .call { callee := .builtin .copy, args := #[d, s], argTypes := #[t, t'] }) (v u : Value) (hd : a.eval d = v) (hs : a.eval s = u) {v' : Value} {w' : World}
  (hr : (Builtin.copy_ #[t, t'] o.type #[v, u]).run P w = .ok v' w') (h : wpList P ops Q rest (a.put o.dst v') w') : wpList P ops Q (o :: rest) a w :=
 wpList_plain hgd fun _ hK => by
  unfold Oper.wp execOp
  simp only [ho, resolve, invoke, builtin, Sem.run_bind, Sem.run_pure, Result.andThen_ok, List.map_toArray, List.map_cons, List.map_nil, hd, hs, hr]
  exact hK _ _ h
theorem step_copy_r {ops : Array Oper} {o : Oper} {a : Act} {w : World} {K : Act → World → Prop} {Q : Exit → Act → World → Prop} {E : Prop}
  (hg : o.guard = none) (d x : Operand) (dT sT : TypeId) (hop : o.op = Op.call { callee := Callee.builtin Builtin.copy, args := #[d, x], argTypes := #[dT, sT] })
  (v u : Value) (hd : a.eval d = v) (hx : a.eval x = u) {v' : Value} {w' : World} (hr : (Builtin.copy_ #[dT, sT] o.type #[v, u]).run P w = .ok v' w') (hK : K (a.put o.dst v') w') :
  if Region.wanted o (yielded ops a.tmps) = true then Oper.wp P o a w K Q else E := by
 have hw : Region.wanted o (yielded ops a.tmps) = true := by simp [Region.wanted, hg]
 rw [if_pos hw]
 unfold Oper.wp
 simp [execOp, hop, resolve, invoke, builtin, hd, hx, hr, Result.andThen]
 exact hK
theorem cut_low (t e : TypeId) (kl : IntKind) {i : TypeInfo} (ht : P.underlying t = some (.slice e)) (hi : P.info? e = some i) (A : Option Addr) (n c : Nat) (lo : Int) (h0 : 0 ≤ lo) (h1 : lo ≤ n) :
  ∃ u : Value, ∀ W : World, (Instr.slice t (.slice A n c) (some (.int kl lo)) none none).run P W = .ok u W := by
 have hel : P.elem t = e := by simp [Program.elem, ht]
 have hu : P.underlying t = some (.slice (P.elem t)) := by rw [hel]; exact ht
 refine ⟨sliced A lo.toNat n c i.size, fun W => ?_⟩
 rw [run_slice_l W t A n c hu kl lo h0 h1, hel]
 simp [sizeOf, typeInfo, hi, Result.andThen]
theorem Kd.M_any {α : Type} {d : Kd α} (hE : d.E = []) {w w1 : World} {base : Nat} {ok ok1 : Nat → Prop} {x : α} {cs : List Value} (h : d.M w base ok x cs) : d.M w1 base ok1 x cs := by
 have h1 := d.M_mono (ok' := fun _ => False) (fun k hk => by obtain ⟨_, _, _, q, hq, _⟩ := hk; rw [hE] at hq; simp at hq) (d.M_bound h)
 exact d.M_mono (fun _ hk => hk.elim) (d.M_move (w1 := w1) (fun _ hk => hk.elim) h1)
theorem Kd.R_of {α : Type} {d : Kd α} (hE : d.E = []) {e : Nat} {w w1 : World} {base : Nat} {ok ok1 : Nat → Prop} {g cap : Nat} {cur : Array Value} {xs : List α} {inner : List Value}
  (hg : w1.heap[g]? = some (.cells cur e (0, 0))) (hb : base ≤ g) (hok : ok1 g) (hn : xs.length ≤ cap) (hm : cap ≤ maxLen) (hs : cur.size = cap * d.sz) (ht : cur.toList.take (xs.length * d.sz) = inner) (hr : Reps (d.M w base ok) d.sz xs inner) :
  d.R e w1 base ok1 (.slice (some ⟨g, 0, none⟩) xs.length cap) xs :=
 ⟨fun k hk => by have e_ : g = k := by { simpa [Value.ownBlock] using hk }; exact e_ ▸ hok, inner, ⟨hr.1, .inr ⟨g, cap, cur, rfl, hb, hg, hn, hm, hs, ht⟩⟩, hr.imp_ (fun _ _ hp => Kd.M_any hE hp)⟩
theorem cut_up (t e : TypeId) (kh : IntKind) {i : TypeInfo} (ht : P.underlying t = some (.slice e)) (hi : P.info? e = some i) (g n c : Nat) (h : Int) (h0 : 0 < h) (h1 : h ≤ c) :
  ∀ W : World, (Instr.slice t (.slice (some ⟨g, 0, none⟩) n c) none (some (.int kh h)) none).run P W = .ok (.slice (some ⟨g, 0, none⟩) h.toNat c) W := by
 intro W
 have hel : P.elem t = e := by simp [Program.elem, ht]
 have hu : P.underlying t = some (.slice (P.elem t)) := by rw [hel]; exact ht
 rw [run_slice_h W t (some ⟨g, 0, none⟩) n c hu kh h (by omega) h1, hel]
 simp [sizeOf, typeInfo, hi, sliced, Result.andThen, Addr.add]
theorem cells_of {w : World} {g e : Nat} {cur : Array Value} {m : Nat} {inner : List Value} (hg : w.heap[g]? = some (.cells cur e (0, 0))) (ht : cur.toList.take m = inner) {j : Nat} {v : Value} (h : inner[j]? = some v) : w.cell? ⟨g, j, none⟩ = some v := by
 rw [blk_cell hg j]
 rw [← ht, List.getElem?_take] at h
 split at h
 ·simpa using h
 ·cases h
theorem cell_in {w : World} {g e : Nat} {cur : Array Value} (hg : w.heap[g]? = some (.cells cur e (0, 0))) {j : Nat} (h : j < cur.size) : (w.cell? ⟨g, j, none⟩).isSome = true := by
 rw [blk_cell hg j, Array.getElem?_eq_getElem h]; rfl
theorem shape_of {w : World} {g e : Nat} {cur : Array Value} (hg : w.heap[g]? = some (.cells cur e (0, 0))) : w.shape? g = some (e, cur.size) := by simp [World.shape?, hg]
end
def impl_Timer_49.f (l0 : List (S46)) (a1 : Int) (l2 : List (S46)) : Option ((List (S46))) := if 0 ≤ a1 then (if a1 ≤ (l0.length : Int) then (if l2.length = 1 then (if l0.length + l2.length < 4398046511104 then (some (l0.take a1.toNat ++ (l2 ++ l0.drop a1.toNat))) else (none)) else (none)) else (none)) else (none)
set_option maxHeartbeats 8000000 in
set_option maxRecDepth 100000 in
theorem impl_Timer_49.calls (P0_ : Nat → Prop) (u9000_ : Value) (l0 : List (S46)) (a1 : Int) (A2 : Option Addr) (c2 : Nat) (l2 : List (S46)) (r : List (S46)) (w0 w : World) (hB : Below w0.heap.size w0 w) (ho0 : Kd.R k46 46 w w0.heap.size P0_ u9000_ l0) (hr2 : Kd.R k46 46 w w0.heap.size (fun k_ => ¬ P0_ k_) (.slice A2 l2.length c2) l2) (h : impl_Timer_49.f l0 a1 l2 = some r) :
  Calls Try.prog 49 #[u9000_, .int .i64 a1, .slice A2 l2.length c2] w fun e w' => ∃ v0_ : Value, e = .returned (v0_) ∧ Kd.R k46 46 w' w0.heap.size (fun k_ => (P0_ k_ ∨ w.heap.size ≤ k_)) v0_ r ∧ Below w0.heap.size w0 w' ∧ Kept w w' (fun k_ => P0_ k_) := by
 have hx : 0 ≤ a1 ∧ a1 ≤ (l0.length : Int) ∧ l2.length = 1 ∧ l0.length + l2.length < 4398046511104 ∧ r = l0.take a1.toNat ++ (l2 ++ l0.drop a1.toNat) := by
  unfold impl_Timer_49.f at h
  split at h
  ·split at h
   ·split at h
    ·split at h
     ·rename_i q1 q2 q3 q4
      exact ⟨q1, q2, q3, q4, (Option.some.inj h).symm⟩
     ·cases h
    ·cases h
   ·cases h
  ·cases h
 obtain ⟨g0, g1, g2, g3, rfl⟩ := hx
 clear h
 obtain ⟨i, rfl⟩ := Int.eq_ofNat_of_zero_le g0
 obtain ⟨x, rfl⟩ : ∃ x, l2 = [x] := List.length_eq_one_iff.1 g2
 simp only [Int.toNat_natCast, List.length_cons, List.length_nil, Nat.zero_add] at g1 g3 hr2 ⊢
 have g4 : i ≤ l0.length := by omega
 obtain ⟨i0_, hi0_, hz_⟩ := Option.map_eq_some_iff.1 info46
 simp only [Prod.mk.injEq] at hz_
 have hw1 : wrap64 ((i : Int) + 1) = (i : Int) + 1 := by unfold wrap64; omega
 have hw2 : wrap64 ((l0.length : Int) + 1) = (l0.length : Int) + 1 := by unfold wrap64; omega
 have hu27 := Try.underlying27
 have HO0 := am (show Kd.R k46 46 w w0.heap.size (fun k_ => (P0_ k_ ∨ w.heap.size ≤ k_)) u9000_ l0 from Kd.R_mono ho0 (fun k_ hk => (.inl hk)))
 have HK := am (Kept.refl w (fun k_ => P0_ k_))
 have HB := am hB
 obtain ⟨A0, c0, e0⟩ := Kd.R_slice ho0
 subst e0
 by_cases hi : i = l0.length
 ·subst hi
  obtain ⟨u1, hlow⟩ := cut_low (P := Try.prog) 27 46 .i64 Try.underlying27 hi0_ A0 l0.length c0 (l0.length : Int) (by omega) (by omega)
  have HR2 := am hr2
  have HG := am g3
  have HH0 := am ho0
  clear hr2 g0 g1 g2 g3 g4 hw1 hw2 hi0_ hz_ ho0 hB
  go_enter Try.func49, Try.ntmps49
  go_wp2_with (first | ((with_reducible refine gate_builtin (b := .append) (xs := #[.tmp 23, .tmp 24]) rfl ?_); at_builtin; refine Kd.R_append_rows k46 (w0 := w0) w0.heap.size rfl (.tmp 23) (.tmp 24) 27 46 (.agg #[(.int .i64 0), (.int .i64 0)]) 16 rfl Try.underlying27 info46 rfl (by decide) (by omega) (.slice A0 l0.length c0) l0 [x] _ _ _ (fun k_ => (P0_ k_ ∨ w.heap.size ≤ k_)) (fun _ => False) rfl rfl ?aO ?aR (fun _ _ h => h) (fun _ h => h.elim) ?aF ?aB ?aS ?aL ?_; (case aR => exact (Kd.R_reads' HR2.out).2.2); (case aB => exact (pkB HB.out)); (case aF => exact (fun k_ hk => (.inr hk))); (case aO => exact (pkR HO0.out)); (case aS => exact (below_size (pkB HB.out))); (case aL => have := HG.out; omega); intro v588 w5 ho hb hg hat; replace HB := am (hb); replace HK := am (Kept.of_grown (S := (fun k_ => P0_ k_)) hg (by repeat (first | (with_reducible first | exact HK.out | apply Kept.alloc | apply Kept.drewN | apply Kept.drew) | exact HK.out)) (fun k_ e_ => (.inl (HH0.out.1 k_ e_)))); have HO589 := am (ho); clear HO0; clear ho hb hg hat))
  go_ret
  exact ⟨_, rfl, by rw [List.take_length, List.drop_length]; exact pkR HO589.out, pkB HB.out, by repeat (first | (with_reducible first | exact HK.out | apply Kept.alloc | apply Kept.drewN | apply Kept.drew) | exact HK.out)⟩
 ·have hlt : i < l0.length := by omega
  obtain ⟨hok, inner, ⟨hl, hcase⟩, hrep⟩ := ho0
  obtain ⟨hok2, inner2, ⟨hl2, hcase2⟩, hrep2⟩ := hr2
  rcases hcase with ⟨he, hn0⟩ | ⟨g, cap, cur, he, hbg, hg, hnc, hcm, hcs, htake⟩
  ·omega
  rcases hcase2 with ⟨he2, hn02⟩ | ⟨vb, cap2, cur2, he2, hbv, hgv, hnc2, hcm2, hcs2, htake2⟩
  ·simp at hn02
  injection he with he1 he0 he3
  subst he1
  subst he3
  injection he2 with he1 he0 he3
  subst he1
  subst he3
  have hsz : k46.sz = 2 := rfl
  simp only [hsz, List.length_cons, List.length_nil, Nat.zero_add, Nat.one_mul] at hl hl2 hcs htake hcs2 htake2 hnc2
  have hPg : P0_ g := hok g (by simp [Value.ownBlock])
  have hvg : vb ≠ g := fun e_ => hok2 vb (by simp [Value.ownBlock]) (e_ ▸ hPg)
  have hone : ∀ u ∈ inner, u.oneCell' = true := Kd.reps_one hrep (by decide) (fun _ _ hp => k46.K_one (k46.K_of_M hp))
  have hone2 : ∀ u ∈ inner2, u.oneCell' = true := Kd.reps_one hrep2 (by decide) (fun _ _ hp => k46.K_one (k46.K_of_M hp))
  have hsi : (Try.prog.info? 46).map (·.size) = some 2 := by rw [hi0_]; simp [hz_.2.1]
  have hso : ∀ w : World, (Go.sizeOf 46).run Try.prog w = .ok 2 w := fun w => by simp [sizeOf, typeInfo, hi0_, hz_.2.1]
  have hd0 := drop_at (P := Try.prog) 27 46 .i64 Try.underlying27 hi0_ g l0.length c0 (i : Int) (by omega) (by omega) hnc
  rw [hz_.2.1] at hd0
  simp only [Int.toNat_natCast] at hd0
  have htn : ((i : Int) + 1).toNat = i + 1 := by omega
  have htn2 : ((l0.length : Int) + 1).toNat = l0.length + 1 := by omega
  have hne1 : ¬ ((i : Int) = (l0.length : Int)) := by omega
  have hGI := am g4
  have HGL := am g3
  have HC2 := am (show ¬ (c0 = i) by omega)
  by_cases hroom : l0.length + 1 ≤ c0
  ·have HC1 := am (show ¬ (c0 = i + 1) by omega)
   have hcn := cut_up (P := Try.prog) 27 46 .i64 Try.underlying27 hi0_ g l0.length c0 ((l0.length : Int) + 1) (by omega) (by omega)
   rw [htn2] at hcn
   have hd1 := drop_at (P := Try.prog) 27 46 .i64 Try.underlying27 hi0_ g (l0.length + 1) c0 ((i : Int) + 1) (by omega) (by omega) hroom
   rw [hz_.2.1, htn] at hd1
   have hd2 := drop_at (P := Try.prog) 27 46 .i64 Try.underlying27 hi0_ g (l0.length + 1) c0 (i : Int) (by omega) (by omega) hroom
   rw [hz_.2.1] at hd2
   simp only [Int.toNat_natCast] at hd2
   have hov : ∀ lb cb, (callFunc 56 #[.slice (some ⟨vb, 0, none⟩) 1 c2, .slice (some ⟨g, (i + 1) * 2, none⟩) lb cb]).run Try.prog w = .ok (.value (.bool false)) w := fun lb cb => by
    rw [run_callFunc_extern Try.func56 (by kernel_rfl) (by kernel_rfl) (by kernel_rfl) (e := Extern.SlicesOverlaps.overlaps #[27, 27] #[4]) (by kernel_rfl),
     Lib.run_overlaps_apart w 27 4 46 Try.underlying27 2 hso ⟨vb, 0, none⟩ ⟨g, (i + 1) * 2, none⟩ 1 c2 lb cb hvg 46 46 cur2.size cur.size (shape_of hgv) (shape_of hg) (by omega) (blk_frozen hgv _) (blk_frozen hgv _)]
    rfl
   have hdl : (inner.drop (i * 2)).length = l0.length * 2 - i * 2 := by rw [List.length_drop, hl]
   have hcp1 : ∀ ty dc sc, (Builtin.copy_ #[27, 27] ty #[.slice (some ⟨g, (i + 1) * 2, none⟩) (l0.length - i) dc, .slice (some ⟨g, i * 2, none⟩) (l0.length + 1 - i) sc]).run Try.prog w.drew = .ok (goInt (Nat.min (l0.length + 1 - i) (l0.length - i))) (w.drew.setCells g ((i + 1) * 2) (inner.drop (i * 2))) := fun ty dc sc =>
    run_copy_k 2 w.drew 27 27 ty 46 g ((i + 1) * 2) (l0.length - i) dc ⟨g, i * 2, none⟩ (l0.length + 1 - i) sc (inner.drop (i * 2)) Try.underlying27 hsi (by rw [hdl]; simp only [Nat.min_def]; split <;> omega)
     (fun j v hj => by rw [Addr.add_lit]; exact cells_of (blk_drew hg) htake (by rwa [List.getElem?_drop] at hj))
     (fun j hj => cell_in (blk_drew hg) (by omega)) (fun j hj => blk_frozen (blk_drew hg) _) (fun v hv => hone v (List.mem_of_mem_drop hv))
   obtain ⟨W1, hW1⟩ : ∃ W1, W1 = w.drew.setCells g ((i + 1) * 2) (inner.drop (i * 2)) := ⟨_, rfl⟩
   obtain ⟨cur1, hg1, hs1, ht1⟩ := setCells_row (inner.drop (i * 2)) ((i + 1) * 2) w.drew cur (blk_drew hg) (by omega)
   obtain ⟨so1, st1, sp1, sz1⟩ := setCells_same g (inner.drop (i * 2)) ((i + 1) * 2) w.drew
   have hfar1 : ∀ k, k ≠ g → W1.heap[k]? = w.heap[k]? := fun k hk => by rw [hW1, setCells_far _ _ k hk]; rfl
   rw [← hW1] at hcp1 hg1 so1 st1 sp1 sz1
   have hgv1 : W1.heap[vb]? = some (.cells cur2 46 (0, 0)) := (hfar1 vb hvg).trans hgv
   have hcp2 : ∀ ty dc sc, (Builtin.copy_ #[27, 27] ty #[.slice (some ⟨g, i * 2, none⟩) (l0.length + 1 - i) dc, .slice (some ⟨vb, 0, none⟩) 1 sc]).run Try.prog W1 = .ok (goInt (Nat.min 1 (l0.length + 1 - i))) (W1.setCells g (i * 2) inner2) := fun ty dc sc =>
    run_copy_k 2 W1 27 27 ty 46 g (i * 2) (l0.length + 1 - i) dc ⟨vb, 0, none⟩ 1 sc inner2 Try.underlying27 hsi (by rw [hl2]; simp only [Nat.min_def]; split <;> omega)
     (fun j v hj => by rw [Addr.add_lit]; exact cells_of hgv1 htake2 (by rw [Nat.zero_add]; exact hj))
     (fun j hj => cell_in hg1 (by omega)) (fun j hj => blk_frozen hg1 _) hone2
   obtain ⟨cur3, hg3, hs3, ht3⟩ := setCells_row inner2 (i * 2) W1 cur1 hg1 (by omega)
   obtain ⟨so3, st3, sp3, sz3⟩ := setCells_same g inner2 (i * 2) W1
   have hfar3 : ∀ k, k ≠ g → (W1.setCells g (i * 2) inner2).heap[k]? = w.heap[k]? := fun k hk => (setCells_far _ _ k hk).trans (hfar1 k hk)
   obtain ⟨W3, hW3⟩ : ∃ W3, W3 = W1.setCells g (i * 2) inner2 := ⟨_, rfl⟩
   rw [← hW3] at hcp2 hg3 so3 st3 sp3 sz3 hfar3
   have hgrown : w.grownBy W3 (some g) := ⟨so3.trans so1, st3.trans st1, sp3.trans sp1, by rw [sz3, sz1]; exact Nat.le_refl _, fun k _ hk => hfar3 k (fun e_ => hk (by rw [e_]))⟩
   have hfin : cur3.toList.take ((l0.take i ++ ([x] ++ l0.drop i)).length * k46.sz) = inner.take (i * 2) ++ (inner2 ++ inner.drop (i * 2)) := by
    have hL : (l0.take i ++ ([x] ++ l0.drop i)).length * k46.sz = (l0.length + 1) * 2 := by rw [hsz]; congr 1; simp; omega
    have hC : cur.toList.length = c0 * 2 := by rw [Array.length_toList]; exact hcs
    have e1 : cur1.toList.take (i * 2) = inner.take (i * 2) := by
     rw [ht1, List.append_assoc, List.take_append_of_le_length (by rw [List.length_take, hC]; omega), List.take_take, Nat.min_eq_left (by omega), ← htake, List.take_take, Nat.min_eq_left (by omega)]
    have e2 : cur1.toList.drop (i * 2 + inner2.length) = inner.drop (i * 2) ++ cur.toList.drop ((i + 1) * 2 + (inner.drop (i * 2)).length) := by
     rw [ht1, List.append_assoc, List.drop_left' (by rw [List.length_take, hC, hl2]; omega)]
    rw [hL, ht3, e1, e2, ← List.append_assoc, List.take_left' (by simp only [List.length_append, List.length_take, List.length_drop, hl, hl2]; omega), List.append_assoc]
   have hrow : Kd.R k46 46 W3 w0.heap.size (fun k_ => (P0_ k_ ∨ w.heap.size ≤ k_)) (.slice (some ⟨g, 0, none⟩) (l0.take i ++ ([x] ++ l0.drop i)).length c0) (l0.take i ++ ([x] ++ l0.drop i)) := by
    refine Kd.R_of (w := w) (ok := fun _ => True) rfl hg3 hbg (.inl hPg) (by simp; omega) hcm (by rw [hs3, hs1, hcs]; rfl) hfin ?_
    have q1 := Kd.reps_take (m := i) hrep (by omega)
    have q2 := Kd.reps_drop (m := i) hrep
    exact Kd.reps_append (q1.imp_ (fun _ _ hp => Kd.M_any rfl hp)) (Kd.reps_append (hrep2.imp_ (fun _ _ hp => Kd.M_any rfl hp)) (q2.imp_ (fun _ _ hp => Kd.M_any rfl hp)))
   have hlen : (l0.take i ++ ([x] ++ l0.drop i)).length = l0.length + 1 := by simp; omega
   rw [hlen] at hrow
   have HRW := am hrow
   have HBW := am (Below.grown HB.out hgrown HB.out.size (fun k_ e_ => by injection e_ with e_; omega))
   have HKW := am (Kept.of_grown (S := fun k_ => P0_ k_) hgrown HK.out (fun k_ e_ => .inl (by injection e_ with e_; exact e_ ▸ hPg)))
   have hb1 : decide ((c0 : Int) < (l0.length : Int) + 1) = false := decide_eq_false (by omega)
   have hb2 : ((i : Int) == (l0.length : Int)) = false := beq_eq_false_iff_ne.2 hne1
   clear HB HK HO0 hrow hfin hgrown hfar3 hfar1 hg3 hs3 ht3 so3 st3 sp3 sz3 so1 st1 sp1 sz1 hg1 hs1 ht1 hgv1 hrep hrep2 hok hok2 hone hone2 hg hgv hcs hcs2 htake htake2 hl hl2 hdl hlen g1 g2 g3 g4 hlt hnc hcm hnc2 hcm2 hbg hbv hi0_ hz_ hsz hPg hsi hso hvg hB htn htn2 he0 hroom hW1 hW3
   have hz1 : IntKind.i64.wrap ((i : Int) + 1) = (i : Int) + 1 := by rw [IntKind.wrap_i64]; have := hGI.out; have := HGL.out; omega
   have hz2 : (0 : Int) ≤ (i : Int) + 1 := by omega
   have hz3 : i ≤ l0.length := hGI.out
   have hz4 : ((i : Int) + 1).toNat = i + 1 := by omega
   have hz5 : ¬ (c0 = i + 1) := HC1.out
   have hz6 : ¬ (c0 = i) := HC2.out
   have hz7 : (i : Int) ≤ (l0.length : Int) + 1 := by omega
   have hz8 : (i : Int) ≤ (l0.length : Int) := by omega
   go_enter Try.func49, Try.ntmps49
   go_wp2_with (simp only [hov])
   go_region_law (refine step_copy_r rfl _ _ 27 27 rfl _ _ (by simp [Act.eval, Act.put]) (by simp [Act.eval, Act.put]) (hcp1 _ _ _) ?_)
   go_wp2_with (at_builtin; refine wpList_copy_r _ rfl _ _ 27 27 rfl _ _ rfl rfl (hcp2 _ _ _) ?_)
   go_ret
   exact ⟨_, rfl, HRW.out, HBW.out, HKW.out⟩
  ·have HC1 := am (show ¬ (c0 = l0.length + 1) by omega)
   obtain ⟨G, hG⟩ : ∃ G, G = grownCap w (l0.length + 1) c0 46 := ⟨_, rfl⟩
   obtain ⟨N, hN⟩ : ∃ N, N = w.heap.size := ⟨_, rfl⟩
   have hGn : l0.length + 1 ≤ G := by rw [hG]; exact grownCap_ge w _ _ _
   have hGm : G ≤ maxLen := by rw [hG]; exact grownCap_le_maxLen w _ _ _ (by unfold maxLen; omega)
   have hold : (Builtin.firstCells i0_.size i (.slice (some ⟨g, 0, none⟩) i c0)).run Try.prog w.drew = .ok (inner.take (i * 2)).toArray w.drew := by
    rw [hz_.2.1]
    exact run_firstCells_some w.drew 2 i ⟨g, 0, none⟩ i c0 (inner.take (i * 2)) (by rw [List.length_take, hl]; omega) (fun j v hj => by
     rw [Addr.add_lit, Nat.zero_add]
     rw [List.getElem?_take] at hj
     split at hj
     ·exact cells_of (blk_drew hg) htake hj
     ·cases hj)
   obtain ⟨ROW, hROW⟩ : ∃ ROW : Array Value, ROW = (inner.take (i * 2)).toArray ++ Builtin.zeroCells (Value.agg #[.int .i64 0, .int .i64 0]).cells (l0.length + 1 - i) ++ Builtin.zeroCells (Value.agg #[.int .i64 0, .int .i64 0]).cells (G - (l0.length + 1)) := ⟨_, rfl⟩
   obtain ⟨W1, hW1⟩ : ∃ W1, W1 = w.drew.alloc (.cells ROW 46) := ⟨_, rfl⟩
   have hik : i + (l0.length + 1 - i) = l0.length + 1 := by omega
   have hkk : (l0.length : Int) + 1 - (i : Int) = ((l0.length + 1 - i : Nat) : Int) := by omega
   have hrz : ∀ ty, (Builtin.append_ #[27, 3] ty #[.slice (some ⟨g, 0, none⟩) i c0, .int .i64 ((l0.length : Int) + 1 - (i : Int))]).run Try.prog w = .ok (.slice (some ⟨N, 0, none⟩) (l0.length + 1) G) W1 := fun ty => by
    have h := Lib.run_append_grow_zeros w 27 3 ty 46 i0_ _ .i64 .i64 Try.underlying27 Try.underlying3 hi0_ hz_.1 (some ⟨g, 0, none⟩) i c0 (inner.take (i * 2)) hold (l0.length + 1 - i) (by omega) (by rw [hz_.2.1]; decide) (by omega) (by omega) (by rw [hz_.2.2]; omega) (by rw [hz_.2.2, hik]; exact growslice_fits (by omega) (by omega))
    rw [hik] at h
    rw [hkk, hW1, hROW, hG, hN]
    exact h
   have hRs : ROW.size = G * 2 := by
    rw [hROW]
    simp [Builtin.zeroCells, Value.cells, hl]
    omega
   have hg1 : W1.heap[N]? = some (.cells ROW 46 (0, 0)) := by rw [hW1, hN]; exact blk_new w.drew _
   have hbel1 : Below w.heap.size w W1 := by rw [hW1]; exact below_alloc (below_drew (Below.refl _ _)) _
   have hgN : g ≠ N := by have := blk_lt hg; omega
   have hvN : vb ≠ N := by have := blk_lt hgv; omega
   have hgv1 := blk_below hgv hbel1
   have hgg1 := blk_below hg hbel1
   have hcpA : ∀ ty dc sc, (Builtin.copy_ #[27, 27] ty #[.slice (some ⟨N, i * 2, none⟩) (l0.length + 1 - i) dc, .slice (some ⟨vb, 0, none⟩) 1 sc]).run Try.prog W1 = .ok (goInt (Nat.min 1 (l0.length + 1 - i))) (W1.setCells N (i * 2) inner2) := fun ty dc sc =>
    run_copy_k 2 W1 27 27 ty 46 N (i * 2) (l0.length + 1 - i) dc ⟨vb, 0, none⟩ 1 sc inner2 Try.underlying27 hsi (by rw [hl2]; simp only [Nat.min_def]; split <;> omega)
     (fun j v hj => by rw [Addr.add_lit]; exact cells_of hgv1 htake2 (by rw [Nat.zero_add]; exact hj))
     (fun j hj => cell_in hg1 (by omega)) (fun j hj => blk_frozen hg1 _) hone2
   obtain ⟨cur2', hg2, hs2, ht2⟩ := setCells_row inner2 (i * 2) W1 ROW hg1 (by omega)
   obtain ⟨so2, st2, sp2, sz2⟩ := setCells_same N inner2 (i * 2) W1
   obtain ⟨W2, hW2⟩ : ∃ W2, W2 = W1.setCells N (i * 2) inner2 := ⟨_, rfl⟩
   have hfar2 : ∀ k, k ≠ N → W2.heap[k]? = W1.heap[k]? := fun k hk => by rw [hW2]; exact setCells_far _ _ k hk
   rw [← hW2] at hcpA hg2 so2 st2 sp2 sz2
   have hgg2 : W2.heap[g]? = some (.cells cur 46 (0, 0)) := (hfar2 g hgN).trans hgg1
   have hdl : (inner.drop (i * 2)).length = l0.length * 2 - i * 2 := by rw [List.length_drop, hl]
   have hcpB : ∀ ty dc sc, (Builtin.copy_ #[27, 27] ty #[.slice (some ⟨N, (i + 1) * 2, none⟩) (l0.length - i) dc, .slice (some ⟨g, i * 2, none⟩) (l0.length - i) sc]).run Try.prog W2.drew = .ok (goInt (Nat.min (l0.length - i) (l0.length - i))) (W2.drew.setCells N ((i + 1) * 2) (inner.drop (i * 2))) := fun ty dc sc =>
    run_copy_k 2 W2.drew 27 27 ty 46 N ((i + 1) * 2) (l0.length - i) dc ⟨g, i * 2, none⟩ (l0.length - i) sc (inner.drop (i * 2)) Try.underlying27 hsi (by rw [hdl]; simp only [Nat.min_def]; split <;> omega)
     (fun j v hj => by rw [Addr.add_lit]; exact cells_of (blk_drew hgg2) htake (by rwa [List.getElem?_drop] at hj))
     (fun j hj => cell_in (blk_drew hg2) (by omega)) (fun j hj => blk_frozen (blk_drew hg2) _) (fun v hv => hone v (List.mem_of_mem_drop hv))
   obtain ⟨cur3, hg3, hs3, ht3⟩ := setCells_row (inner.drop (i * 2)) ((i + 1) * 2) W2.drew cur2' (blk_drew hg2) (by omega)
   obtain ⟨so3, st3, sp3, sz3⟩ := setCells_same N (inner.drop (i * 2)) ((i + 1) * 2) W2.drew
   obtain ⟨W3, hW3⟩ : ∃ W3, W3 = W2.drew.setCells N ((i + 1) * 2) (inner.drop (i * 2)) := ⟨_, rfl⟩
   have hfar3 : ∀ k, k ≠ N → W3.heap[k]? = W1.heap[k]? := fun k hk => by rw [hW3]; exact (setCells_far _ _ k hk).trans (hfar2 k hk)
   rw [← hW3] at hcpB hg3 so3 st3 sp3 sz3
   have hbel : Below w.heap.size w W3 := ⟨so3.trans (so2.trans hbel1.os), st3.trans (st2.trans hbel1.tape), sp3.trans (sp2.trans hbel1.output), by rw [sz3]; show _ ≤ W2.heap.size; rw [sz2]; exact hbel1.size, fun k hk => (hfar3 k (by omega)).trans (hbel1.block k hk)⟩
   have hfin : cur3.toList.take ((l0.take i ++ ([x] ++ l0.drop i)).length * k46.sz) = inner.take (i * 2) ++ (inner2 ++ inner.drop (i * 2)) := by
    have hL : (l0.take i ++ ([x] ++ l0.drop i)).length * k46.sz = (l0.length + 1) * 2 := by rw [hsz]; congr 1; simp; omega
    have hC : ROW.toList.length = G * 2 := by rw [Array.length_toList]; exact hRs
    have e0 : ROW.toList.take (i * 2) = inner.take (i * 2) := by
     rw [hROW]
     simp only [Array.toList_append, List.append_assoc]
     rw [List.take_left' (by rw [List.length_take, hl]; omega)]
    have e1 : cur2'.toList.take ((i + 1) * 2) = inner.take (i * 2) ++ inner2 := by
     rw [ht2, List.take_left' (by rw [List.length_append, List.length_take, hC, hl2]; omega), e0]
    rw [hL, ht3, e1, List.take_left' (by simp only [List.length_append, List.length_take, List.length_drop, hl, hl2]; omega), List.append_assoc]
   have hrow : Kd.R k46 46 W3 w0.heap.size (fun k_ => (P0_ k_ ∨ w.heap.size ≤ k_)) (.slice (some ⟨N, 0, none⟩) (l0.take i ++ ([x] ++ l0.drop i)).length G) (l0.take i ++ ([x] ++ l0.drop i)) := by
    refine Kd.R_of (w := w) (ok := fun _ => True) rfl hg3 (by have := hB.size; omega) (.inr (by omega)) (by simp; omega) hGm (by rw [hs3, hs2, hRs]; rfl) hfin ?_
    have q1 := Kd.reps_take (m := i) hrep (by omega)
    have q2 := Kd.reps_drop (m := i) hrep
    exact Kd.reps_append (q1.imp_ (fun _ _ hp => Kd.M_any rfl hp)) (Kd.reps_append (hrep2.imp_ (fun _ _ hp => Kd.M_any rfl hp)) (q2.imp_ (fun _ _ hp => Kd.M_any rfl hp)))
   have hlen : (l0.take i ++ ([x] ++ l0.drop i)).length = l0.length + 1 := by simp; omega
   rw [hlen] at hrow
   have HRW := am hrow
   have HBW := am (below_step HB.out hbel)
   have HKW := am (Kept.below (S := fun k_ => P0_ k_) HK.out hbel)
   have hci := cut_to (P := Try.prog) 27 46 .i64 Try.underlying27 hi0_ (some ⟨g, 0, none⟩) l0.length c0 (i : Int) (by omega) (by omega) hnc
   simp only [Int.toNat_natCast] at hci
   have hd2 := drop_at (P := Try.prog) 27 46 .i64 Try.underlying27 hi0_ N (l0.length + 1) G (i : Int) (by omega) (by omega) hGn
   rw [hz_.2.1] at hd2
   simp only [Int.toNat_natCast] at hd2
   have hw3 : wrap64 ((l0.length : Int) + 1 - (i : Int)) = (l0.length : Int) + 1 - (i : Int) := by unfold wrap64; omega
   have HW3 := am hw3
   have hb1 : decide ((c0 : Int) < (l0.length : Int) + 1) = true := decide_eq_true (by omega)
   have hb2 : ((i : Int) == (l0.length : Int)) = false := beq_eq_false_iff_ne.2 hne1
   have hz1 : IntKind.i64.wrap ((i : Int) + 1) = (i : Int) + 1 := by rw [IntKind.wrap_i64]; omega
   have hz2 : (0 : Int) ≤ (i : Int) + 1 := by omega
   have hz3 : i ≤ l0.length := hGI.out
   have hz4 : ((i : Int) + 1).toNat = i + 1 := by omega
   have hz5 : ¬ (G = i + 1) := by omega
   have hz6 : ¬ (c0 = i) := HC2.out
   have hz7 : (i : Int) ≤ (l0.length : Int) + 1 := by omega
   have hz8 : (i : Int) ≤ (l0.length : Int) := by omega
   clear HB HK HO0 hrow hfin hbel hbel1 hfar3 hfar2 hg3 hs3 ht3 so3 st3 sp3 sz3 so2 st2 sp2 sz2 hg2 hs2 ht2 hgg2 hgg1 hg1 hgv1 hrep hrep2 hok hok2 hone hone2 hg hgv hcs hcs2 htake htake2 hl hl2 hdl hlen g1 g2 g3 g4 hlt hnc hcm hnc2 hcm2 hbg hbv hi0_ hz_ hsz hPg hsi hso hvg hB htn htn2 he0 hroom hW1 hW2 hW3 hROW hRs hold hik hkk hG hN hGn hGm hgN hvN
   go_enter Try.func49, Try.ntmps49
   go_wp2_with (first
    | ((with_reducible refine gate_dst (N := 40) rfl ?_); at_builtin; refine Lib.wpList_append_run _ rfl _ _ _ _ rfl (.slice (some ⟨g, 0, none⟩) i c0) (.int .i64 (wrap64 ((l0.length : Int) + 1 - (i : Int)))) rfl rfl _ _ (by rw [HW3.out]; exact hrz _) ?_)
    | ((with_reducible refine gate_dst (N := 45) rfl ?_); at_builtin; refine wpList_copy_r _ rfl _ _ 27 27 rfl (.slice (some ⟨N, i * 2, none⟩) (l0.length + 1 - i) (G - i)) (.slice (some ⟨vb, 0, none⟩) 1 c2) rfl rfl (hcpA _ _ _) ?_))
   go_region_law (refine step_copy_r rfl _ _ 27 27 rfl _ _ (by simp [Act.eval, Act.put]) (by simp [Act.eval, Act.put]) (hcpB _ _ _) ?_)
   go_wp2
   go_ret
   exact ⟨_, rfl, HRW.out, HBW.out, HKW.out⟩
end Go.Proofs.Ytfgjfheiekhmlaa.Z
