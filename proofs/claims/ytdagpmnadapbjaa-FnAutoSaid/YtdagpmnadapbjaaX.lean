/- Words about rows; conditions: in each theorem. -/
import Derived.Test.YtdagpmnadapbjaaWWords
import Derived.Test.YtdagpmnadapbjaaWLast
import Derived.Test.YtdagpmnadapbjaaWMore
import Derived.Laws.IdiomCopy
import Derived.WalkSpells
import Derived.Lib.SliceRun
namespace Go.Proofs.YtdagpmnadapbjaaW.PrintWords
open Go.RowKit Go.Proofs.YtdagpmnadapbjaaW.PrintLast Go.Proofs.YtdagpmnadapbjaaW.PrintMore
namespace Kd
section
variable {α : Type} {d : Kd α} {e base g i c : Nat} {ok : Nat → Prop} {w : World} {xs : List α}
theorem R_beyond (h : d.R e w base ok (.slice (some ⟨g, 0, none⟩) i c) xs) {j : Nat} (hj : i * d.sz ≤ j) (u : Value) : d.R e (w.setCell ⟨g, j, none⟩ u) base ok (.slice (some ⟨g, 0, none⟩) i c) xs ∧ w.grownBy (w.setCell ⟨g, j, none⟩ u) (some g) := by
 obtain ⟨h0, inner, ⟨hl, hcase⟩, hr⟩ := h
 rcases hcase with ⟨he, _⟩ | ⟨g', cap, cur, he, hb, hh, h1, h2, h3, h4⟩
 ·cases he
 ·obtain ⟨rfl, rfl, rfl⟩ : g = g' ∧ i = xs.length ∧ c = cap := by
   injection he with e1 e2 e3
   injection e1 with e1
   injection e1 with e1
   exact ⟨e1, e2, e3⟩
  have hg : w.grownBy (w.setCell ⟨g, j, none⟩ u) (some g) := ⟨rfl, rfl, rfl, by simp [World.setCell], fun k _ hk => Below.heap_setCell w ⟨g, j, none⟩ u k (fun e_ => hk (by rw [e_]))⟩
  refine ⟨⟨h0, inner, ⟨hl, .inr ⟨g, c, cur.setIfInBounds j u, rfl, hb, blk_set hh j u, h1, h2, by simpa using h3, ?_⟩⟩, ?_⟩, hg⟩
  ·rw [← h4]
   refine List.ext_getElem? fun q => ?_
   rw [List.getElem?_take, List.getElem?_take]
   split
   ·simp only [Array.getElem?_toList, Array.getElem?_setIfInBounds]
    rw [if_neg (by omega)]
   ·rfl
  ·refine hr.imp_ (fun _ _ hp => M_step hp (fun k hk _ => Below.heap_setCell w ⟨g, j, none⟩ u k (fun e_ => hk.2 (by rw [e_]; rfl))))
theorem R_beyonds (vs : List Value) : ∀ {w : World} {j : Nat}, d.R e w base ok (.slice (some ⟨g, 0, none⟩) i c) xs → i * d.sz ≤ j → d.R e (w.setCells g j vs) base ok (.slice (some ⟨g, 0, none⟩) i c) xs ∧ w.grownBy (w.setCells g j vs) (some g) := by
 induction vs with
 | nil => exact fun h _ => ⟨h, World.grownBy.refl _ _⟩
 | cons v r ih =>
  intro w j h hj
  obtain ⟨h1, h2⟩ := R_beyond h hj v
  obtain ⟨h3, h4⟩ := ih h1 (Nat.le_succ_of_le hj)
  exact ⟨h3, World.grownBy.trans h2 h4⟩
theorem R_clear {P : Program} {t : TypeId} {n : Nat} {z : Value} {bytes : Nat} (ht : P.underlying t = some (.slice e)) (hinfo : (P.info? e).map (fun q => (q.zero, q.size, q.bytes)) = some (some z, d.sz, bytes)) (hz : z.cells.size = d.sz) (hz1 : ∀ u ∈ z.cells, u.oneCell' = true) (hsz : 0 < d.sz)
  (h : d.R e w base ok (.slice (some ⟨g, 0, none⟩) n c) xs) (hi : i ≤ n) :
  ∃ w2, (∀ ty c', (Builtin.clear_ #[t] ty #[.slice (some ⟨g, i * d.sz, none⟩) (n - i) c']).run P w = .ok (.tuple #[]) w2) ∧ d.R e w2 base ok (.slice (some ⟨g, 0, none⟩) i c) (xs.take i) ∧ w.grownBy w2 (some g) := by
 obtain ⟨i0, hi0, hzz⟩ := Option.map_eq_some_iff.1 hinfo
 simp only [Prod.mk.injEq] at hzz
 obtain ⟨hz0, _, _⟩ := hzz
 have hn : n = xs.length := (R_reads' h).1
 have h' := R_take (m := i) h (by omega)
 rcases Nat.eq_or_lt_of_le hi with rfl | hlt
 ·exact ⟨w, fun ty c' => by simp [Builtin.clear_, run_underlying ht], h', World.grownBy.refl _ _⟩
 ·obtain ⟨_, inner, ⟨hl, hcase⟩, _⟩ := h
  rcases hcase with ⟨he, _⟩ | ⟨g', cap, cur, he, hb, hh, h1, h2, h3, h4⟩
  ·cases he
  ·obtain ⟨rfl, rfl⟩ : g = g' ∧ c = cap := by
    injection he with e1 e2 e3
    injection e1 with e1
    injection e1 with e1
    exact ⟨e1, e3⟩
   obtain ⟨vs, hvs⟩ : ∃ vs, vs = (Builtin.zeroCells z.cells (n - i)).toList := ⟨_, rfl⟩
   have hvl : vs.length = (n - i) * d.sz := by rw [hvs]; simp [Builtin.zeroCells, hz]
   have hbound : ∀ j, j < vs.length → i * d.sz + j < cur.size := by
    intro j hj
    rw [h3]
    have : (i * d.sz + (n - i) * d.sz) ≤ c * d.sz := by rw [← Nat.add_mul]; exact Nat.mul_le_mul_right _ (by omega)
    omega
   have hst := run_storeCells_cells (P := P) g (i * d.sz) vs 0 w
    (fun j hj => by rw [Nat.add_zero, blk_cell hh]; simp [hbound j hj])
    (fun j _ => blk_frozen hh _)
    (fun v hv => by
     rw [hvs] at hv
     simp only [Builtin.zeroCells, Array.toList_map, List.mem_map] at hv
     obtain ⟨q, _, rfl⟩ := hv
     have hq : q % z.cells.size < z.cells.size := Nat.mod_lt _ (by omega)
     rw [getElem!_pos z.cells _ hq]
     exact hz1 _ (Array.getElem_mem hq))
   simp only [Nat.add_zero] at hst
   obtain ⟨h5, h6⟩ := R_beyonds vs (j := i * d.sz) h' (Nat.le_refl _)
   refine ⟨w.setCells g (i * d.sz) vs, fun ty c' => ?_, h5, h6⟩
   obtain ⟨m, hm⟩ : ∃ m, n - i = m + 1 := ⟨n - i - 1, by omega⟩
   have hv : ∀ w : World, (zeroValue e).run P w = .ok z w := fun w => by simp [zeroValue, typeInfo, hi0, hz0]
   rw [hm] at hvs ⊢
   simp [Builtin.clear_, run_underlying ht, hv, ← hvs, hst]
end
end Kd
theorem drop_at {P : Program} (t e : TypeId) (kh : IntKind) {i : TypeInfo} (ht : P.underlying t = some (.slice e)) (hi : P.info? e = some i) (g n c : Nat) (j : Int) (h0 : 0 ≤ j) (hm : j < n) (hc : n ≤ c) :
  ∀ W : World, (Instr.slice t (.slice (some ⟨g, 0, none⟩) n c) (some (.int kh j)) none none).run P W = .ok (.slice (some ⟨g, j.toNat * i.size, none⟩) (n - j.toNat) (c - j.toNat)) W := by
 intro W
 have hel : P.elem t = e := by simp [Program.elem, ht]
 have hu : P.underlying t = some (.slice (P.elem t)) := by rw [hel]; exact ht
 rw [run_slice_l W t (some ⟨g, 0, none⟩) n c hu kh j h0 (by omega), hel]
 simp [sizeOf, typeInfo, hi, sliced, Result.andThen, Addr.add, show ¬ c = j.toNat by omega]
 intro h_
 rw [h_]
theorem cell_dr {w : World} {n : Nat} {a : Addr} {v : Value} (h : w.cell? a = some v) : (w.drewN n).cell? a = some v := h
theorem bbk {w w1 w2 : World} {g : Nat} {o : Obj} (h : Aside0 (w.heap[g]? = some o)) (hb : Below w1.heap.size w1 w2) (hp : Below w.heap.size w w1 := by with_reducible repeat (first | exact Below.refl _ _ | apply below_alloc | apply pw_below_drewN | apply below_drew1)) : Aside0 (w2.heap[g]? = some o) := ⟨blk_below (blk_below h.out hp) hb⟩
theorem rbl {α : Type} {d : Kd α} {w w1 w2 : World} {e base : Nat} {ok : Nat → Prop} {v : Value} {xs : List α} (h : Aside0 (d.R e w base ok v xs)) (hb : Below w1.heap.size w1 w2) (hp : Below w.heap.size w w1 := by with_reducible repeat (first | exact Below.refl _ _ | apply below_alloc | apply pw_below_drewN | apply below_drew1)) : Aside0 (d.R e w2 base ok v xs) := ⟨Kd.R_below (Kd.R_below h.out hp) hb⟩
theorem bst {w w0 w1 w2 : World} (_h : Aside0 (Below w.heap.size w w0)) (hb : Below w1.heap.size w1 w2) (hp : Below w.heap.size w w1 := by repeat (first | (with_reducible first | exact Aside0.out (by assumption) | apply below_alloc | apply pw_below_drewN | apply below_drew1 | refine below_set ?_ (Aside0.out (by assumption))) | exact Aside0.out (by assumption))) : Aside0 (Below w.heap.size w w2) := ⟨below_step hp hb⟩
end Go.Proofs.YtdagpmnadapbjaaW.PrintWords
