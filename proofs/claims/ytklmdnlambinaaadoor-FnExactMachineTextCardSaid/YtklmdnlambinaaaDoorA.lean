/- How the arguments of these laws (cells, boards, machines, lists of cells, lists of numbers) are read out of memory, for the rows. -/
import Derived.Test.YtklmdnlambinaaaDoorV
import Derived.Deep.Slices
import Derived.ChangeSame
import Derived.Deep.Fields
import Derived.Lib.SmallJoins
import Derived.WideShapes
namespace Go.Proofs.YtklmdnlambinaaaDoor.Args
open Go.RowKit Go.Proofs.YtklmdnlambinaaaDoorW.PrintWords Go.ChangeShapes Go.WideShapes Go.Deep Go.Joins
section
variable {H : Type} {enc : TypeId × Value → H} {P : Program} {w : World} {base : Nat} {spare : Nat → Bool} {held : Bool}

/-- Two whole numbers side by side. -/
theorem two_ints {t : TypeId} {f0 f1 : Field} {fuel : Nat} {cs : List Value} {x : DataW H × List MemPlace} (ht : P.underlying t = some (.struct #[f0, f1])) (hone : oneCellFields P #[f0, f1] = true) (hC : P.cellsOf t = 2)
 (u0 : P.underlying f0.type = some (.int .i64)) (u1 : P.underlying f1.type = some (.int .i64)) (h : DataW.trod enc P w base spare held fuel t cs = some x) :
 ∃ a b, cs = [.int .i64 a, .int .i64 b] ∧ (Lit.int .i64 a).wf = true ∧ (Lit.int .i64 b).wf = true := by
 obtain ⟨y0, y1, n, _, hl, h0, h1⟩ := trod_struct2 ht h
 obtain ⟨o0, k0⟩ := hone_of hone 0 f0 rfl
 obtain ⟨o1, k1⟩ := hone_of hone 1 f1 rfl
 rw [o0, k0] at h0
 rw [o1, k1] at h1
 match cs, hl.trans hC with
 | [c0, c1], _ =>
  obtain ⟨a, e0, _, wa⟩ := DataW.trod_int u0 h0
  obtain ⟨b, e1, _, wb⟩ := DataW.trod_int u1 h1
  simp at e0 e1
  exact ⟨a, b, by rw [e0, e1], wa, wb⟩

/-- A struct of two whole numbers, by value. -/
theorem open_cell {r : Reach} {b0 : Nat} {t : TypeId} {f0 f1 : Field} {v : Value} {d : DataW H} {p : List MemPlace} (hs : P.underlying t = some (.struct #[f0, f1])) (hone : oneCellFields P #[f0, f1] = true) (hC : P.cellsOf t = 2)
 (u0 : P.underlying f0.type = some (.int .i64)) (u1 : P.underlying f1.type = some (.int .i64)) (hv : Value.okWide P w r b0 t v) (h : DataW.Trod enc P w base spare held t v d p) :
 ∃ a b, v = .agg #[.int .i64 a, .int .i64 b] ∧ (Lit.int .i64 a).wf = true ∧ (Lit.int .i64 b).wf = true := by
 obtain ⟨cs, rfl, hsz⟩ := okWide_struct hs hv
 obtain ⟨fuel, hf⟩ := h
 obtain ⟨a, b, e, wa, wb⟩ := two_ints hs hone hC u0 u1 hf
 refine ⟨a, b, ?_, wa, wb⟩
 have e2 : cs.toList = [.int .i64 a, .int .i64 b] := e
 rw [show cs = cs.toList.toArray by simp, e2]

/-- A row of such structs. -/
theorem row_cells {α : Type} {d : Kd α} (mk : Int → Int → α) (hsz : d.sz = 2) (hK : ∀ (w : World) a b, d.K w (mk a b) [.int .i64 a, .int .i64 b])
 {t e : TypeId} {f0 f1 : Field} (ht : P.underlying t = some (.slice e)) (he : P.underlying e = some (.struct #[f0, f1])) (hone : oneCellFields P #[f0, f1] = true) (hC : P.cellsOf e = 2)
 (u0 : P.underlying f0.type = some (.int .i64)) (u1 : P.underlying f1.type = some (.int .i64)) {A : Option Addr} {len cap fuel : Nat} {x : DataW H × List MemPlace}
 (h : DataW.trod enc P w base spare held fuel t [.slice A len cap] = some x) : ∃ xs : List α, len = xs.length ∧ Kd.C d w A xs.length xs ∧ xs.length ≤ cap ∧ xs.length ≤ maxLen := by
 rcases open_slice ht h with ⟨hcs, _⟩ | ⟨a, len', cap', m, n, D, Pl, hcs, _, hle, hmax, hm, _, hel⟩
 ·simp at hcs
  obtain ⟨rfl, rfl, rfl⟩ := hcs
  exact ⟨[], rfl, ⟨rfl, by simp, fun h => absurd h (Nat.lt_irrefl 0)⟩, Nat.le_refl _, Nat.zero_le _⟩
 ·simp at hcs
  obtain ⟨rfl, rfl, rfl⟩ := hcs
  have hmle : len ≤ m := by
   rw [hm]
   split <;> omega
  have hex : ∀ i, i < len → ∃ q : Int × Int, w.cell? (a.add (i * 2)) = some (.int .i64 q.1) ∧ w.cell? (a.add (i * 2 + 1)) = some (.int .i64 q.2) := by
   intro i hi
   obtain ⟨cs', hc, hd⟩ := hel i (by omega)
   rw [hC] at hc
   obtain ⟨p, q, rfl, _, _⟩ := two_ints he hone hC u0 u1 hd
   obtain ⟨_, _, hcell⟩ := World.cells?_some hc
   have c0 := hcell 0 (by omega)
   have c1 := hcell 1 (by omega)
   rw [Go.Deep.add_add] at c0 c1
   exact ⟨(p, q), c0, c1⟩
  obtain ⟨f, hf⟩ := choose_lt hex
  have hlen : ((List.range len).map fun i => mk (f i).1 (f i).2).length = len := by simp
  refine ⟨(List.range len).map fun i => mk (f i).1 (f i).2, hlen.symm, ⟨rfl, ?_, fun _ => ⟨a, rfl, ?_⟩⟩, by rw [hlen]; exact hle, by rw [hlen]; exact Nat.le_trans hle hmax⟩
  ·rw [hlen]
   exact Nat.le_trans (Nat.le_trans hle hmax) (by decide)
  ·intro j p hj
   have hjl : j < len := by
    have := (List.getElem?_eq_some_iff.1 hj).1
    rwa [hlen] at this
   have hp : p = mk (f j).1 (f j).2 := by
    simp [hjl] at hj
    exact hj.symm
   subst hp
   refine ⟨[.int .i64 (f j).1, .int .i64 (f j).2], by simp [hsz], hK w _ _, ?_⟩
   intro i u hu
   rw [hsz]
   obtain ⟨h0, h1⟩ := hf j hjl
   match i, hu with
   | 0, hu => simp at hu; subst hu; exact h0
   | 1, hu => simp at hu; subst hu; exact h1

/-- A row of whole numbers. -/
theorem row_ints {t e : TypeId} (ht : P.underlying t = some (.slice e)) (he : P.underlying e = some (.int .i64)) (hC : P.cellsOf e = 1) {A : Option Addr} {len cap fuel : Nat} {x : DataW H × List MemPlace}
 (h : DataW.trod enc P w base spare held fuel t [.slice A len cap] = some x) : ∃ xs : List Int, len = xs.length ∧ Kd.C (Kd.int .i64) w A xs.length xs ∧ xs.length ≤ cap ∧ xs.length ≤ maxLen := by
 rcases open_ints ht he hC h with ⟨hcs, _⟩ | ⟨a, l, c, zs, hcs, _, hl, hm, hz, _, hcell, hwz⟩
 ·simp at hcs
  obtain ⟨rfl, rfl, rfl⟩ := hcs
  exact ⟨[], rfl, ⟨rfl, by simp, fun h => absurd h (Nat.lt_irrefl 0)⟩, Nat.le_refl _, Nat.zero_le _⟩
 ·simp at hcs
  obtain ⟨rfl, rfl, rfl⟩ := hcs
  have hle : len ≤ zs.length := by
   rw [hz]
   split <;> omega
  have hlen : (zs.take len).length = len := by simp [hle]
  refine ⟨zs.take len, hlen.symm, ⟨rfl, ?_, fun _ => ⟨a, rfl, ?_⟩⟩, by rw [hlen]; exact hl, by rw [hlen]; exact Nat.le_trans hl hm⟩
  ·rw [hlen]
   exact Nat.le_trans (Nat.le_trans hl hm) (by decide)
  ·intro j p hj
   have hjl : j < len := by
    have := (List.getElem?_eq_some_iff.1 hj).1
    rwa [hlen] at this
   have hp : zs.getD j 0 = p := by
    rw [List.getElem?_take] at hj
    simp [hjl] at hj
    rw [List.getD_eq_getElem?_getD, hj]
    rfl
   refine ⟨[.int .i64 p], rfl, rfl, ?_⟩
   intro i u hu
   match i, hu with
   | 0, hu =>
    simp at hu
    subst hu
    rw [← hp]
    simpa [Kd.int, Kd.scalar] using hcell j (by omega)

/-- Two whole numbers and a slice: a board's cells. -/
theorem board_cells {t : TypeId} {f0 f1 f2 : Field} {e : TypeId} {fuel : Nat} {cs : List Value} {x : DataW H × List MemPlace} (ht : P.underlying t = some (.struct #[f0, f1, f2])) (hone : oneCellFields P #[f0, f1, f2] = true) (hC : P.cellsOf t = 3)
 (u0 : P.underlying f0.type = some (.int .i64)) (u1 : P.underlying f1.type = some (.int .i64)) (u2 : P.underlying f2.type = some (.slice e)) (h : DataW.trod enc P w base spare held fuel t cs = some x) :
 ∃ a b A len cap n y, cs = [.int .i64 a, .int .i64 b, .slice A len cap] ∧ (Lit.int .i64 a).wf = true ∧ (Lit.int .i64 b).wf = true ∧ DataW.trod enc P w base spare held n f2.type [.slice A len cap] = some y := by
 obtain ⟨xs, n, _, _, hl, hlen, hf⟩ := DataW.trod_struct ht h
 obtain ⟨o0, k0⟩ := hone_of hone 0 f0 rfl
 obtain ⟨o1, k1⟩ := hone_of hone 1 f1 rfl
 obtain ⟨o2, k2⟩ := hone_of hone 2 f2 rfl
 have h0 := hf 0 f0 rfl
 have h1 := hf 1 f1 rfl
 have h2 := hf 2 f2 rfl
 rw [o0, k0] at h0
 rw [o1, k1] at h1
 rw [o2, k2] at h2
 match cs, hl.trans hC, xs, hlen with
 | [c0, c1, c2], _, [y0, y1, y2], _ =>
  obtain ⟨a, e0, _, wa⟩ := DataW.trod_int (x := y0) u0 (by simpa using h0)
  obtain ⟨b, e1, _, wb⟩ := DataW.trod_int (x := y1) u1 (by simpa using h1)
  have h2' : DataW.trod enc P w base spare held n f2.type [c2] = some y2 := by simpa using h2
  obtain ⟨A, len, cap, e2⟩ := slice_form u2 h2'
  simp at e0 e1 e2
  subst e0 e1 e2
  exact ⟨a, b, A, len, cap, n, y2, rfl, wa, wb, h2'⟩

/-- A board by value. -/
theorem open_board {r : Reach} {b0 : Nat} {t : TypeId} {f0 f1 f2 : Field} {e : TypeId} {v : Value} {d : DataW H} {p : List MemPlace} (hs : P.underlying t = some (.struct #[f0, f1, f2])) (hone : oneCellFields P #[f0, f1, f2] = true) (hC : P.cellsOf t = 3)
 (u0 : P.underlying f0.type = some (.int .i64)) (u1 : P.underlying f1.type = some (.int .i64)) (u2 : P.underlying f2.type = some (.slice e)) (hv : Value.okWide P w r b0 t v) (h : DataW.Trod enc P w base spare held t v d p) :
 ∃ a b A len cap n y, v = .agg #[.int .i64 a, .int .i64 b, .slice A len cap] ∧ (Lit.int .i64 a).wf = true ∧ (Lit.int .i64 b).wf = true ∧ DataW.trod enc P w base spare held n f2.type [.slice A len cap] = some y := by
 obtain ⟨cs, rfl, hsz⟩ := okWide_struct hs hv
 obtain ⟨fuel, hf⟩ := h
 obtain ⟨a, b, A, len, cap, n, y, e, wa, wb, hy⟩ := board_cells hs hone hC u0 u1 u2 hf
 refine ⟨a, b, A, len, cap, n, y, ?_, wa, wb, hy⟩
 have e2 : cs.toList = [.int .i64 a, .int .i64 b, .slice A len cap] := e
 rw [show cs = cs.toList.toArray by simp, e2]

/-- A board and five whole numbers, by value: a machine. -/
theorem open_machine {r : Reach} {b0 : Nat} {t : TypeId} {g0 g1 g2 g3 g4 g5 f0 f1 f2 : Field} {e : TypeId} {v : Value} {d : DataW H} {p : List MemPlace} (hs : P.underlying t = some (.struct #[g0, g1, g2, g3, g4, g5]))
 (o0 : g0.offset = 0) (o1 : g1.offset = 3) (o2 : g2.offset = 4) (o3 : g3.offset = 5) (o4 : g4.offset = 6) (o5 : g5.offset = 7) (hC : P.cellsOf t = 8) (k0 : P.cellsOf g0.type = 3)
 (i1 : P.underlying g1.type = some (.int .i64)) (i2 : P.underlying g2.type = some (.int .i64)) (i3 : P.underlying g3.type = some (.int .i64)) (i4 : P.underlying g4.type = some (.int .i64)) (i5 : P.underlying g5.type = some (.int .i64))
 (k1 : P.cellsOf g1.type = 1) (k2 : P.cellsOf g2.type = 1) (k3 : P.cellsOf g3.type = 1) (k4 : P.cellsOf g4.type = 1) (k5 : P.cellsOf g5.type = 1)
 (hb : P.underlying g0.type = some (.struct #[f0, f1, f2])) (hone : oneCellFields P #[f0, f1, f2] = true)
 (u0 : P.underlying f0.type = some (.int .i64)) (u1 : P.underlying f1.type = some (.int .i64)) (u2 : P.underlying f2.type = some (.slice e)) (hv : Value.okWide P w r b0 t v) (h : DataW.Trod enc P w base spare held t v d p) :
 ∃ a b A len cap n y m1 m2 m3 m4 m5, v = .agg #[.int .i64 a, .int .i64 b, .slice A len cap, .int .i64 m1, .int .i64 m2, .int .i64 m3, .int .i64 m4, .int .i64 m5] ∧ DataW.trod enc P w base spare held n f2.type [.slice A len cap] = some y := by
 obtain ⟨cs, rfl, hsz⟩ := okWide_struct hs hv
 obtain ⟨fuel, hf0⟩ := h
 have hf0 : DataW.trod enc P w base spare held fuel t cs.toList = some (d, p) := hf0
 obtain ⟨xs, n, _, _, hl, hlen, hf⟩ := DataW.trod_struct hs hf0
 have h0 := hf 0 g0 rfl
 have h1 := hf 1 g1 rfl
 have h2 := hf 2 g2 rfl
 have h3 := hf 3 g3 rfl
 have h4 := hf 4 g4 rfl
 have h5 := hf 5 g5 rfl
 rw [o0, k0] at h0
 rw [o1, k1] at h1
 rw [o2, k2] at h2
 rw [o3, k3] at h3
 rw [o4, k4] at h4
 rw [o5, k5] at h5
 clear hf hf0
 obtain ⟨l⟩ := cs
 have hl8 : l.length = 8 := hl.trans hC
 match l, hl8, xs, hlen with
 | [c0, c1, c2, c3, c4, c5, c6, c7], _, [y0, y1, y2, y3, y4, y5], _ =>
  have h0' : DataW.trod enc P w base spare held n g0.type [c0, c1, c2] = some y0 := by simpa using h0
  obtain ⟨a, b, A, len, cap, n', y, e, _, _, hy⟩ := board_cells hb hone k0 u0 u1 u2 h0'
  obtain ⟨m1, e1, _, _⟩ := DataW.trod_int (x := y1) i1 (by simpa using h1)
  obtain ⟨m2, e2, _, _⟩ := DataW.trod_int (x := y2) i2 (by simpa using h2)
  obtain ⟨m3, e3, _, _⟩ := DataW.trod_int (x := y3) i3 (by simpa using h3)
  obtain ⟨m4, e4, _, _⟩ := DataW.trod_int (x := y4) i4 (by simpa using h4)
  obtain ⟨m5, e5, _, _⟩ := DataW.trod_int (x := y5) i5 (by simpa using h5)
  simp at e e1 e2 e3 e4 e5
  obtain ⟨rfl, rfl, rfl⟩ := e
  subst e1 e2 e3 e4 e5
  exact ⟨a, b, A, len, cap, n', y, m1, m2, m3, m4, m5, rfl, hy⟩
end
end Go.Proofs.YtklmdnlambinaaaDoor.Args
