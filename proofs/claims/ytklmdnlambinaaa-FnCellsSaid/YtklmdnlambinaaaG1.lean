/- Began as a text that print.sh wrote (of the functions named below); turned and shortened by this session. -/
import Derived.Test.YtklmdnlambinaaaG0
namespace Go.Proofs.Ytklmdnlambinaaa.PAll
open Go.RowKit Go.Proofs.YtklmdnlambinaaaW.PrintWords Go.Proofs.YtklmdnlambinaaaW.PrintLast Go.Proofs.YtklmdnlambinaaaW.PrintMore
attribute [local go_sem] max2_int min2_int max_two min_two max_three min_three max_four min_four   -- for this text's walks alone
set_option linter.unusedVariables false
set_option linter.unusedSimpArgs false

theorem eqA25 (d : Nat) (w : World) (x0 y0 : Int) (x1 y1 : Int) :
 (Op.equalIn (d + 2) 25 (.agg #[.int .i64 x0, .int .i64 x1]) (.agg #[.int .i64 y0, .int .i64 y1])).run Try.prog w = .ok (x0 == y0 && (x1 == y1)) w := by
 refine eqA_of Try.underlying25 (by kernel_rfl) ?_
 refine eqf_cons (by rfl) (by go_simp; rfl) (by go_simp; rfl) (by go_simp) ?_
 exact eqf_last (by rfl) (by go_simp; rfl) (by go_simp; rfl) (by go_simp)

/-- A state of type 56 at block g of W; what its slices lead to came in by w0. -/
def IsS56 (w0 W : World) (g : Nat) (f0 : List Int) (f1 : Int) (f2 : Int) : Prop := ∃ A0 c0, W.heap[g]? = some (.cells #[.slice A0 f0.length c0, .int .i64 f1, .int .u64 f2] 56 (0, 0)) ∧ w0.heap.size ≤ g ∧ Kd.C (Kd.int .u8) w0 A0 f0.length f0
theorem IsS56.grown {w0 W : World} {g : Nat} {f0 : List Int} {f1 : Int} {f2 : Int} {W1 : World} {row : Option Nat} (h : IsS56 w0 W g f0 f1 f2) (hw : W.grownBy W1 row) (hne : some g ≠ row) : IsS56 w0 W1 g f0 f1 f2 := by
 obtain ⟨A0, c0, hb, hg, hr0⟩ := h
 exact ⟨A0, c0, qg hb hw hne, hg, hr0⟩
theorem IsS56.own_neN {w0 W : World} {g : Nat} {f0 : List Int} {f1 : Int} {f2 : Int} {α : Type} {d : Kd α} {e : Nat} {base : Nat} {ok : Nat → Prop} {v : Value} {xs : List α} (h : IsS56 w0 W g f0 f1 f2) (ho : Kd.N d e W base ok v xs) (ht : e ≠ 56) : some g ≠ v.ownBlock := by
 obtain ⟨A0, c0, hb, hg, hr0⟩ := h
 exact Kd.N_ne ho hb ht
theorem IsS56.fresh {w0 W : World} {g : Nat} {f0 : List Int} {f1 : Int} {f2 : Int} (h : IsS56 w0 W g f0 f1 f2) : ∀ k, W.heap.size ≤ k → k ≠ g := by
 obtain ⟨A0, c0, hb, hg, hr0⟩ := h
 exact Kd.freshB hb
theorem IsS56.kept {w0 W : World} {g : Nat} {f0 : List Int} {f1 : Int} {f2 : Int} {W1 : World} {S : Nat → Prop} (h : IsS56 w0 W g f0 f1 f2) (hk : Kept W W1 S) (hne : ¬ S g) : IsS56 w0 W1 g f0 f1 f2 := by
 obtain ⟨A0, c0, hb, hg, hr0⟩ := h
 exact ⟨A0, c0, qk hb hk hne, hg, hr0⟩
theorem IsS56.below {w0 W : World} {g : Nat} {f0 : List Int} {f1 : Int} {f2 : Int} {W1 : World} (h : IsS56 w0 W g f0 f1 f2) (hw : Below W.heap.size W W1) : IsS56 w0 W1 g f0 f1 f2 := h.grown (grown_of_below hw none) (by simp)
theorem IsS56.alloc {w0 W : World} {g : Nat} {f0 : List Int} {f1 : Int} {f2 : Int} (h : IsS56 w0 W g f0 f1 f2) (o : Obj) : IsS56 w0 (W.alloc o) g f0 f1 f2 := h.below (qa (Below.refl _ _) o)
theorem IsS56.drewN {w0 W : World} {g : Nat} {f0 : List Int} {f1 : Int} {f2 : Int} (h : IsS56 w0 W g f0 f1 f2) (m : Nat) : IsS56 w0 (W.drewN m) g f0 f1 f2 := h
theorem IsS56.drew {w0 W : World} {g : Nat} {f0 : List Int} {f1 : Int} {f2 : Int} (h : IsS56 w0 W g f0 f1 f2) : IsS56 w0 W.drew g f0 f1 f2 := h
theorem IsS56.at_ {w0 W : World} {g : Nat} {f0 : List Int} {f1 : Int} {f2 : Int} {w' : World} {m : Nat} (hq : W.drewN m = w') (h : IsS56 w0 W g f0 f1 f2) : IsS56 w0 w' g f0 f1 f2 := by subst hq; exact IsS56.drewN h m
theorem IsS56.apart {w0 W : World} {g : Nat} {f0 : List Int} {f1 : Int} {f2 : Int} {α : Type} {d : Kd α} {e : Nat} {base : Nat} {ok : Nat → Prop} {v : Value} {xs : List α} (h : IsS56 w0 W g f0 f1 f2) (ho : d.R e W base ok v xs) (ht : ∀ q, q ∈ e :: d.E → q ≠ 56) : d.R e W base (fun k => ok k ∧ k ≠ g) v xs := by
 obtain ⟨A0, c0, hb, hg, hr0⟩ := h
 exact Kd.Ry ho hb ht
theorem IsS56.own_ne {w0 W : World} {g : Nat} {f0 : List Int} {f1 : Int} {f2 : Int} {α : Type} {d : Kd α} {e : Nat} {base : Nat} {ok : Nat → Prop} {v : Value} {xs : List α} (h : IsS56 w0 W g f0 f1 f2) (ho : d.R e W base ok v xs) (ht : e ≠ 56) : some g ≠ v.ownBlock := by
 obtain ⟨A0, c0, hb, hg, hr0⟩ := h
 exact Kd.R_ne ho hb ht
theorem IsS56.apartQ {w0 W : World} {g : Nat} {f0 : List Int} {f1 : Int} {f2 : Int} {α : Type} {d : Kd α} {e : Nat} {base : Nat} {ok : Nat → Prop} {v : Value} {xs : List α} (h : IsS56 w0 W g f0 f1 f2) (ho : d.Q e W base ok v xs) (ht : ∀ q, q ∈ e :: d.E → q ≠ 56) : d.Q e W base (fun k => ok k ∧ k ≠ g) v xs := by
 obtain ⟨A0, c0, hb, hg, hr0⟩ := h
 exact Kd.Q_types ho hb ht
theorem IsS56.own_neQ {w0 W : World} {g : Nat} {f0 : List Int} {f1 : Int} {f2 : Int} {α : Type} {d : Kd α} {e : Nat} {base : Nat} {ok : Nat → Prop} {v : Value} {xs : List α} (h : IsS56 w0 W g f0 f1 f2) (ho : d.Q e W base ok v xs) (ht : e ≠ 56) : some g ≠ v.ownBlock := by
 obtain ⟨A0, c0, hb, hg, hr0⟩ := h
 exact Kd.Q_ne ho hb ht
theorem IsS56.apartS {w0 W : World} {g : Nat} {f0 : List Int} {f1 : Int} {f2 : Int} {α : Type} {d : Kd α} {e : Nat} {base : Nat} {ok : Nat → Prop} {v : Value} {xs : List α} (h : IsS56 w0 W g f0 f1 f2) (ho : d.S e W base ok v xs) (ht : ∀ q, q ∈ e :: d.E → q ≠ 56) : d.S e W base (fun k => ok k ∧ k ≠ g) v xs := by
 obtain ⟨A0, c0, hb, hg, hr0⟩ := h
 exact Kd.S_types ho hb ht
theorem IsS56.own_neS {w0 W : World} {g : Nat} {f0 : List Int} {f1 : Int} {f2 : Int} {α : Type} {d : Kd α} {e : Nat} {base : Nat} {ok : Nat → Prop} {v : Value} {xs : List α} (h : IsS56 w0 W g f0 f1 f2) (ho : d.S e W base ok v xs) (ht : e ≠ 56) : some g ≠ v.ownBlock := by
 obtain ⟨A0, c0, hb, hg, hr0⟩ := h
 exact Kd.S_ne ho hb ht
theorem IsS56.lt {w0 W : World} {g : Nat} {f0 : List Int} {f1 : Int} {f2 : Int} (h : IsS56 w0 W g f0 f1 f2) : g < W.heap.size := by
 obtain ⟨A0, c0, hb, hg, hr0⟩ := h
 exact qt hb
theorem IsS56.ge {w0 W : World} {g : Nat} {f0 : List Int} {f1 : Int} {f2 : Int} (h : IsS56 w0 W g f0 f1 f2) : w0.heap.size ≤ g := by
 obtain ⟨A0, c0, hb, hg, hr0⟩ := h
 exact hg
theorem IsS56.ne_blk {w0 W : World} {g : Nat} {f0 : List Int} {f1 : Int} {f2 : Int} {a : Nat} {cs : Array Value} {t : TypeId} {fr : Nat × Nat} (h : IsS56 w0 W g f0 f1 f2) (hb2 : W.heap[a]? = some (.cells cs t fr)) (ht : t ≠ 56) : g ≠ a := by
 obtain ⟨A0, c0, hb, hg, hr0⟩ := h
 rintro rfl
 rw [hb] at hb2
 injection hb2 with hb2
 injection hb2 with _ ht2
 exact ht ht2.symm
theorem IsS56.far {w0 W : World} {g : Nat} {f0 : List Int} {f1 : Int} {f2 : Int} {p : Addr} (h : IsS56 w0 W g f0 f1 f2) (hne : g ≠ p.block) (u : Value) : IsS56 w0 (W.setCell p u) g f0 f1 f2 := by
 obtain ⟨A0, c0, hb, hg, hr0⟩ := h
 exact ⟨A0, c0, qf hb hne u, hg, hr0⟩
theorem cellS56_0 {W : World} {g : Nat} {A0 : Option Addr} {c0 : Nat} {f0 : List Int} {f1 : Int} {f2 : Int} (h : W.heap[g]? = some (.cells #[.slice A0 f0.length c0, .int .i64 f1, .int .u64 f2] 56 (0, 0))) : W.cell? ⟨g, 0, none⟩ = some (.slice A0 f0.length c0) := (ql h 0).trans rfl
theorem cellS56_1 {W : World} {g : Nat} {A0 : Option Addr} {c0 : Nat} {f0 : List Int} {f1 : Int} {f2 : Int} (h : W.heap[g]? = some (.cells #[.slice A0 f0.length c0, .int .i64 f1, .int .u64 f2] 56 (0, 0))) : W.cell? ⟨g, 1, none⟩ = some (.int .i64 f1) := (ql h 1).trans rfl
theorem IsS56.set_1 {w0 W : World} {g : Nat} {f0 : List Int} {f1 : Int} {f2 : Int} (h : IsS56 w0 W g f0 f1 f2) (x : Int) : IsS56 w0 (W.setCell ⟨g, 1, none⟩ (.int .i64 x)) g f0 x f2 := by
 obtain ⟨A0, c0, hb, hg, hr0⟩ := h
 exact ⟨A0, c0, by simpa using blk_set hb 1 (.int .i64 x), hg, hr0⟩
theorem cellS56_2 {W : World} {g : Nat} {A0 : Option Addr} {c0 : Nat} {f0 : List Int} {f1 : Int} {f2 : Int} (h : W.heap[g]? = some (.cells #[.slice A0 f0.length c0, .int .i64 f1, .int .u64 f2] 56 (0, 0))) : W.cell? ⟨g, 2, none⟩ = some (.int .u64 f2) := (ql h 2).trans rfl
theorem IsS56.set_2 {w0 W : World} {g : Nat} {f0 : List Int} {f1 : Int} {f2 : Int} (h : IsS56 w0 W g f0 f1 f2) (x : Int) : IsS56 w0 (W.setCell ⟨g, 2, none⟩ (.int .u64 x)) g f0 f1 x := by
 obtain ⟨A0, c0, hb, hg, hr0⟩ := h
 exact ⟨A0, c0, by simpa using blk_set hb 2 (.int .u64 x), hg, hr0⟩
theorem IsS56.new (w0 W : World) (A0 : Option Addr) (c0 : Nat) (f0 : List Int) (f1 : Int) (f2 : Int) (hB : Below w0.heap.size w0 W) (hr0 : Kd.C (Kd.int .u8) w0 A0 f0.length f0) : IsS56 w0 (W.alloc (.cells #[.slice A0 f0.length c0, .int .i64 f1, .int .u64 f2] 56)) W.heap.size f0 f1 f2 := ⟨A0, c0, by simpa using heap_alloc_new W _, hB.size, hr0⟩

/-! ### spec_mkCur: function 75 -/
def spec_mkCur.f (l0 : List Int) : Option (List Int × Int × Int) := some (l0, 0, 0)
theorem IsS56.made {w0 W : World} {g c0 : Nat} {A0 : Option Addr} {l0 r1 : List Int} {r2 r3 : Int} (h : spec_mkCur.f l0 = some (r1, r2, r3)) (hb : W.heap[g]? = some (.cells #[.slice A0 l0.length c0, .int .i64 0, .int .u64 0] 56 (0, 0))) (hg : w0.heap.size ≤ g) (hr : Kd.C (Kd.int .u8) w0 A0 l0.length l0) : IsS56 w0 W g r1 r2 r3 := by
 unfold spec_mkCur.f at h
 simp only [Option.some.injEq, Prod.mk.injEq] at h
 obtain ⟨rfl, rfl, rfl⟩ := h
 exact ⟨A0, c0, hb, hg, hr⟩

/-! ### laws_big: function 5 -/
def laws_big.f (l0 : List Int) (l1 : List Int) : Option (Bool) := if (l0.length : Int) > 1048576 then (some true) else (some (decide ((l1.length : Int) > (wrap64 (1048576 - (l0.length : Int))))))
set_option maxHeartbeats 8000000 in
set_option maxRecDepth 100000 in
theorem laws_big.calls (A0 : Option Addr) (c0 : Nat) (l0 : List Int) (A1 : Option Addr) (c1 : Nat) (l1 : List Int) (r : Bool) (w : World) (hr0 : Kd.C (Kd.int .u8) w A0 l0.length l0) (hc0 : l0.length ≤ c0) (hr1 : Kd.C (Kd.int .u8) w A1 l1.length l1) (hc1 : l1.length ≤ c1) (h : laws_big.f l0 l1 = some r) :
 Calls Try.prog 5 #[.slice A0 l0.length c0, .slice A1 l1.length c1] w fun e w' => e = .returned (.bool r) ∧ Drawn0 w w' := by
 have A6 := Z.m hr0
 have A4 := Z.m hc0
 clear hr0 hc0
 have A7 := Z.m hr1
 have A5 := Z.m hc1
 clear hr1 hc1
 have H : (if (l0.length : Int) > 1048576 then (some true) else (some (decide ((l1.length : Int) > (wrap64 (1048576 - (l0.length : Int))))))) = some r := h
 clear h
 by_cases c3 : (l0.length : Int) > 1048576
 ·rw [if_pos c3] at H
  have A2 := decide_eq_true c3
  have A3 : decide (1048576 < l0.length) = true := decide_eq_true (by omega)
  clear c3
  obtain rfl := Option.some.inj H
  go_enter Try.func5, Try.ntmps5
  go_wp2
  go_ret
  exact ⟨by first | rfl | (simp; done) | (simp [*]; done), by repeat (first | exact Drawn0.refl _ | apply Drawn0.step)⟩
 ·rw [if_neg c3] at H
  have A2 := decide_eq_false c3
  have A3 : decide (1048576 < l0.length) = false := decide_eq_false (by omega)
  clear c3
  obtain rfl := Option.some.inj H
  go_enter Try.func5, Try.ntmps5
  go_wp2
  go_ret
  exact ⟨by first | rfl | (simp; done) | (simp [*]; done), by repeat (first | exact Drawn0.refl _ | apply Drawn0.step)⟩

/-! ### spec_l1Cur_next: function 58 -/
def spec_l1Cur_next.f (s0_0 : List Int) (s0_1 : Int) (s0_2 : Int) : Option (Int × Int × Int) := if s0_1 < (s0_0.length : Int) then (if 0 ≤ s0_1 then (if (wrap64 (s0_1 + 1)) ≤ (s0_0.length : Int) then (some (wrap64 (rd s0_0 s0_1), wrap64 (s0_1 + 1), IntKind.u64.wrap ((IntKind.u64.wrap ((IntKind.u64.wrap (s0_2 * 6364136223846793005)) + (IntKind.u64.wrap (wrap64 (rd s0_0 s0_1))))) + 1442695040888963407))) else (some (wrap64 (Go.bits .and .u64 ((IntKind.u64.wrap ((IntKind.u64.wrap ((IntKind.u64.wrap (s0_2 * 6364136223846793005)) + (IntKind.u64.wrap (wrap64 (rd s0_0 s0_1))))) + 1442695040888963407)) / 1099511627776) 255), wrap64 (s0_1 + 1), IntKind.u64.wrap ((IntKind.u64.wrap ((IntKind.u64.wrap (s0_2 * 6364136223846793005)) + (IntKind.u64.wrap (wrap64 (rd s0_0 s0_1))))) + 1442695040888963407)))) else (none)) else (if (wrap64 (s0_1 + 1)) ≤ (s0_0.length : Int) then (some (0, wrap64 (s0_1 + 1), IntKind.u64.wrap ((IntKind.u64.wrap ((IntKind.u64.wrap (s0_2 * 6364136223846793005)) + 0)) + 1442695040888963407))) else (some (wrap64 (Go.bits .and .u64 ((IntKind.u64.wrap ((IntKind.u64.wrap ((IntKind.u64.wrap (s0_2 * 6364136223846793005)) + 0)) + 1442695040888963407)) / 1099511627776) 255), wrap64 (s0_1 + 1), IntKind.u64.wrap ((IntKind.u64.wrap ((IntKind.u64.wrap (s0_2 * 6364136223846793005)) + 0)) + 1442695040888963407))))
set_option maxHeartbeats 8000000 in
set_option maxRecDepth 100000 in
theorem spec_l1Cur_next.calls (g : Nat) (s0_0 : List Int) (s0_1 : Int) (s0_2 : Int) (r1 : Int) (r2 : Int) (r3 : Int) (w0 w : World) (hI : IsS56 w0 w g s0_0 s0_1 s0_2) (hB : Below w0.heap.size w0 w) (h : spec_l1Cur_next.f s0_0 s0_1 s0_2 = some (r1, r2, r3)) :
 Calls Try.prog 58 #[.pointer (some ⟨g, 0, none⟩)] w fun e w' => e = .returned (.int .i64 r1) ∧ IsS56 w0 w' g s0_0 r2 r3 ∧ Below w0.heap.size w0 w' ∧ KeepBut w w' g none := by
 have HI0 := Z.m hI
 have HK := Z.m (KeepBut.refl w g none)
 have HL := Z.m hB.size
 clear hI
 have HW0 := Z.m hB.size
 have HB := Z.m hB
 clear hB
 have H : (if s0_1 < (s0_0.length : Int) then (if 0 ≤ s0_1 then (if (wrap64 (s0_1 + 1)) ≤ (s0_0.length : Int) then (some (wrap64 (rd s0_0 s0_1), wrap64 (s0_1 + 1), IntKind.u64.wrap ((IntKind.u64.wrap ((IntKind.u64.wrap (s0_2 * 6364136223846793005)) + (IntKind.u64.wrap (wrap64 (rd s0_0 s0_1))))) + 1442695040888963407))) else (some (wrap64 (Go.bits .and .u64 ((IntKind.u64.wrap ((IntKind.u64.wrap ((IntKind.u64.wrap (s0_2 * 6364136223846793005)) + (IntKind.u64.wrap (wrap64 (rd s0_0 s0_1))))) + 1442695040888963407)) / 1099511627776) 255), wrap64 (s0_1 + 1), IntKind.u64.wrap ((IntKind.u64.wrap ((IntKind.u64.wrap (s0_2 * 6364136223846793005)) + (IntKind.u64.wrap (wrap64 (rd s0_0 s0_1))))) + 1442695040888963407)))) else (none)) else (if (wrap64 (s0_1 + 1)) ≤ (s0_0.length : Int) then (some (0, wrap64 (s0_1 + 1), IntKind.u64.wrap ((IntKind.u64.wrap ((IntKind.u64.wrap (s0_2 * 6364136223846793005)) + 0)) + 1442695040888963407))) else (some (wrap64 (Go.bits .and .u64 ((IntKind.u64.wrap ((IntKind.u64.wrap ((IntKind.u64.wrap (s0_2 * 6364136223846793005)) + 0)) + 1442695040888963407)) / 1099511627776) 255), wrap64 (s0_1 + 1), IntKind.u64.wrap ((IntKind.u64.wrap ((IntKind.u64.wrap (s0_2 * 6364136223846793005)) + 0)) + 1442695040888963407))))) = some (r1, r2, r3) := h
 clear h
 by_cases c2 : s0_1 < (s0_0.length : Int)
 ·rw [if_pos c2] at H
  have A2 := decide_eq_true c2
  clear c2
  by_cases c3 : 0 ≤ s0_1
  ·rw [if_pos c3] at H
   have Ap := decide_eq_true c3
   clear c3
   by_cases c4 : (wrap64 (s0_1 + 1)) ≤ (s0_0.length : Int)
   ·rw [if_pos c4] at H
    have A3 := decide_eq_true c4
    clear c4
    simp only [Option.some.injEq, Prod.mk.injEq] at H
    obtain ⟨rfl, rfl, rfl⟩ := H
    try simp only [Int.add_zero]
    obtain ⟨ASz5_0, cSz5_0, HGz5, hgz5, HSz5_0⟩ := HI0.o
    have A5 := cellS56_0 HGz5
    have A6 := cellS56_1 HGz5
    have A7 := cellS56_2 HGz5
    have Ah := qz HGz5 1
    have Ai := qz HGz5 2
    clear HGz5 hgz5
    have p102 : 0 ≤ (s0_1 : Int) := ofD
    have q102 : s0_1 < (s0_0.length : Int) := ofD
    obtain ⟨A1, e102, A0⟩ := Kd.at_int HSz5_0 s0_1 p102 q102
    cases e102
    replace A0 := pw_cell_below HB.o A0
    replace p102 := eq_true p102
    replace q102 := eq_true q102
    go_enter Try.func58, Try.ntmps58
    go_wp2
    repeat (go_quiet (fail); try go_wp2)
    go_ret
    exact ⟨by first | rfl | (simp [eN, eS] <;> rfl) | (simp [*, eN, eS] <;> rfl), by repeat (first | (with_reducible first | exact HI0.o | apply IsS56.alloc | apply IsS56.drewN | apply IsS56.drew | apply IsS56.set_1 | apply IsS56.set_2) | exact HI0.o), by repeat (first | (with_reducible first | exact HB.o | apply qa | apply qn | apply qd | refine qx ?_ (IsS56.ge HI0.o)) | exact HB.o), by repeat (first | (with_reducible first | exact HK.o | apply KeepBut.set_ | apply keep_drewN | apply keep_drew | apply keep_alloc) | exact HK.o)⟩
   ·rw [if_neg c4] at H
    have A3 := decide_eq_false c4
    clear c4
    simp only [Option.some.injEq, Prod.mk.injEq] at H
    obtain ⟨rfl, rfl, rfl⟩ := H
    try simp only [Int.add_zero]
    obtain ⟨ASz6_0, cSz6_0, HGz6, hgz6, HSz6_0⟩ := HI0.o
    have A8 := cellS56_0 HGz6
    have A9 := cellS56_1 HGz6
    have Aa := cellS56_2 HGz6
    have Aj := qz HGz6 1
    have Ak := qz HGz6 2
    clear HGz6 hgz6
    have p102 : 0 ≤ (s0_1 : Int) := ofD
    have q102 : s0_1 < (s0_0.length : Int) := ofD
    obtain ⟨A1, e102, A0⟩ := Kd.at_int HSz6_0 s0_1 p102 q102
    cases e102
    replace A0 := pw_cell_below HB.o A0
    replace p102 := eq_true p102
    replace q102 := eq_true q102
    go_enter Try.func58, Try.ntmps58
    go_wp2
    repeat (go_quiet (fail); try go_wp2)
    go_ret
    exact ⟨by first | rfl | (simp [eN, eS] <;> rfl) | (simp [*, eN, eS] <;> rfl), by repeat (first | (with_reducible first | exact HI0.o | apply IsS56.alloc | apply IsS56.drewN | apply IsS56.drew | apply IsS56.set_1 | apply IsS56.set_2) | exact HI0.o), by repeat (first | (with_reducible first | exact HB.o | apply qa | apply qn | apply qd | refine qx ?_ (IsS56.ge HI0.o)) | exact HB.o), by repeat (first | (with_reducible first | exact HK.o | apply KeepBut.set_ | apply keep_drewN | apply keep_drew | apply keep_alloc) | exact HK.o)⟩
  ·rw [if_neg c3] at H
   exact absurd H (by simp)
 ·rw [if_neg c2] at H
  have A2 := decide_eq_false c2
  clear c2
  by_cases c7 : (wrap64 (s0_1 + 1)) ≤ (s0_0.length : Int)
  ·rw [if_pos c7] at H
   have A4 := decide_eq_true c7
   clear c7
   simp only [Option.some.injEq, Prod.mk.injEq] at H
   obtain ⟨rfl, rfl, rfl⟩ := H
   try simp only [Int.add_zero]
   obtain ⟨ASz8_0, cSz8_0, HGz8, hgz8, HSz8_0⟩ := HI0.o
   have Ab := cellS56_0 HGz8
   have Ac := cellS56_1 HGz8
   have Ad := cellS56_2 HGz8
   have Al := qz HGz8 1
   have Am := qz HGz8 2
   clear HGz8 hgz8
   go_enter Try.func58, Try.ntmps58
   go_wp2
   repeat (go_quiet (fail); try go_wp2)
   go_ret
   exact ⟨by first | rfl | (simp [eN, eS] <;> rfl) | (simp [*, eN, eS] <;> rfl), by repeat (first | (with_reducible first | exact HI0.o | apply IsS56.alloc | apply IsS56.drewN | apply IsS56.drew | apply IsS56.set_1 | apply IsS56.set_2) | exact HI0.o), by repeat (first | (with_reducible first | exact HB.o | apply qa | apply qn | apply qd | refine qx ?_ (IsS56.ge HI0.o)) | exact HB.o), by repeat (first | (with_reducible first | exact HK.o | apply KeepBut.set_ | apply keep_drewN | apply keep_drew | apply keep_alloc) | exact HK.o)⟩
  ·rw [if_neg c7] at H
   have A4 := decide_eq_false c7
   clear c7
   simp only [Option.some.injEq, Prod.mk.injEq] at H
   obtain ⟨rfl, rfl, rfl⟩ := H
   try simp only [Int.add_zero]
   obtain ⟨ASz9_0, cSz9_0, HGz9, hgz9, HSz9_0⟩ := HI0.o
   have Ae := cellS56_0 HGz9
   have Af := cellS56_1 HGz9
   have Ag := cellS56_2 HGz9
   have An := qz HGz9 1
   have Ao := qz HGz9 2
   clear HGz9 hgz9
   go_enter Try.func58, Try.ntmps58
   go_wp2
   repeat (go_quiet (fail); try go_wp2)
   go_ret
   exact ⟨by first | rfl | (simp [eN, eS] <;> rfl) | (simp [*, eN, eS] <;> rfl), by repeat (first | (with_reducible first | exact HI0.o | apply IsS56.alloc | apply IsS56.drewN | apply IsS56.drew | apply IsS56.set_1 | apply IsS56.set_2) | exact HI0.o), by repeat (first | (with_reducible first | exact HB.o | apply qa | apply qn | apply qd | refine qx ?_ (IsS56.ge HI0.o)) | exact HB.o), by repeat (first | (with_reducible first | exact HK.o | apply KeepBut.set_ | apply keep_drewN | apply keep_drew | apply keep_alloc) | exact HK.o)⟩

/-! ### spec_l1Cur_pick: function 47 -/
def spec_l1Cur_pick.f (s0_0 : List Int) (s0_1 : Int) (s0_2 : Int) (a1 : Int) : Option (Int × Int × Int) := if a1 ≤ 1 then (some (0, s0_1, s0_2)) else ((spec_l1Cur_next.f s0_0 s0_1 s0_2).bind fun bt103 => (if a1 > 200 then ((spec_l1Cur_next.f s0_0 bt103.2.1 bt103.2.2).bind fun bt106 => (if a1 = 0 then (none) else (some (Int.tmod (wrap64 ((wrap64 (bt103.1 * 256)) + bt106.1)) a1, bt106.2.1, bt106.2.2)))) else (if a1 = 0 then (none) else (some (Int.tmod bt103.1 a1, bt103.2.1, bt103.2.2)))))
set_option maxHeartbeats 8000000 in
set_option maxRecDepth 100000 in
theorem spec_l1Cur_pick.calls (g : Nat) (s0_0 : List Int) (s0_1 : Int) (s0_2 : Int) (a1 : Int) (r1 : Int) (r2 : Int) (r3 : Int) (w0 w : World) (hI : IsS56 w0 w g s0_0 s0_1 s0_2) (hB : Below w0.heap.size w0 w) (h : spec_l1Cur_pick.f s0_0 s0_1 s0_2 a1 = some (r1, r2, r3)) :
 Calls Try.prog 47 #[.pointer (some ⟨g, 0, none⟩), .int .i64 a1] w fun e w' => e = .returned (.int .i64 r1) ∧ IsS56 w0 w' g s0_0 r2 r3 ∧ Below w0.heap.size w0 w' ∧ KeepBut w w' g none := by
 have HI0 := Z.m hI
 have HK := Z.m (KeepBut.refl w g none)
 have HL := Z.m hB.size
 clear hI
 have HW0 := Z.m hB.size
 have HB := Z.m hB
 clear hB
 have H : (if a1 ≤ 1 then (some (0, s0_1, s0_2)) else ((spec_l1Cur_next.f s0_0 s0_1 s0_2).bind fun bt103 => (if a1 > 200 then ((spec_l1Cur_next.f s0_0 bt103.2.1 bt103.2.2).bind fun bt106 => (if a1 = 0 then (none) else (some (Int.tmod (wrap64 ((wrap64 (bt103.1 * 256)) + bt106.1)) a1, bt106.2.1, bt106.2.2)))) else (if a1 = 0 then (none) else (some (Int.tmod bt103.1 a1, bt103.2.1, bt103.2.2)))))) = some (r1, r2, r3) := h
 clear h
 by_cases c3 : a1 ≤ 1
 ·rw [if_pos c3] at H
  have A8 := decide_eq_true c3
  clear c3
  simp only [Option.some.injEq, Prod.mk.injEq] at H
  obtain ⟨rfl, rfl, rfl⟩ := H
  go_enter Try.func47, Try.ntmps47
  go_wp2
  go_ret
  exact ⟨by first | rfl | (simp [eN, eS] <;> rfl) | (simp [*, eN, eS] <;> rfl), by repeat (first | (with_reducible first | exact HI0.o | apply IsS56.alloc | apply IsS56.drewN | apply IsS56.drew | apply IsS56.set_1 | apply IsS56.set_2) | exact HI0.o), by repeat (first | (with_reducible first | exact HB.o | apply qa | apply qn | apply qd | refine qx ?_ (IsS56.ge HI0.o)) | exact HB.o), by repeat (first | (with_reducible first | exact HK.o | apply KeepBut.set_ | apply keep_drewN | apply keep_drew | apply keep_alloc) | exact HK.o)⟩
 ·rw [if_neg c3] at H
  have A8 := decide_eq_false c3
  clear c3
  replace H := Option.bind_eq_some_iff.mp H
  obtain ⟨⟨A0, A1, A2⟩, Aa, H⟩ := H
  replace H : (if a1 > 200 then ((spec_l1Cur_next.f s0_0 A1 A2).bind fun bt106 => (if a1 = 0 then (none) else (some (Int.tmod (wrap64 ((wrap64 (A0 * 256)) + bt106.1)) a1, bt106.2.1, bt106.2.2)))) else (if a1 = 0 then (none) else (some (Int.tmod A0 a1, A1, A2)))) = some (r1, r2, r3) := H
  have A4 := Z.m Aa
  clear Aa
  by_cases c5 : a1 > 200
  ·rw [if_pos c5] at H
   have A9 := decide_eq_true c5
   clear c5
   replace H := Option.bind_eq_some_iff.mp H
   obtain ⟨⟨A3, A5, A7⟩, Ab, H⟩ := H
   replace H : (if a1 = 0 then (none) else (some (Int.tmod (wrap64 ((wrap64 (A0 * 256)) + A3)) a1, A5, A7))) = some (r1, r2, r3) := H
   have A6 := Z.m Ab
   clear Ab
   by_cases c7 : a1 = 0
   ·rw [if_pos c7] at H
    exact absurd H (by simp)
   ·rw [if_neg c7] at H
    have Af := beq_eq_false_iff_ne.mpr c7
    have Ag := bne_iff_ne.mpr c7
    simp only [Option.some.injEq, Prod.mk.injEq] at H
    obtain ⟨rfl, rfl, rfl⟩ := H
    go_enter Try.func47, Try.ntmps47
    go_wp2_with (first | ((with_reducible refine gc (f := 58) rfl ?_); refine gA (some 9) _ #[.pointer (some ⟨g, 0, none⟩)] ?_ Try.func58; (with_reducible refine (spec_l1Cur_next.calls g s0_0 s0_1 s0_2 A0 A1 A2 w0 _ ?side1 ?side2 A4.o).mono ?_); (case side1 => repeat (first | (with_reducible first | exact HI0.o | apply IsS56.alloc | apply IsS56.drewN | apply IsS56.drew | apply IsS56.set_1 | apply IsS56.set_2) | exact HI0.o)); (case side2 => repeat (first | (with_reducible first | exact HB.o | apply qa | apply qn | apply qd | refine qx ?_ (IsS56.ge HI0.o)) | exact HB.o)); rintro e w8 ⟨rfl, hi, hb, hk⟩; refine ⟨_, rfl, ?_⟩; replace HK := Z.m (KeepBut.trans (by repeat (first | (with_reducible first | exact HK.o | apply KeepBut.set_ | apply keep_drewN | apply keep_drew | apply keep_alloc) | exact HK.o)) hk (.inl rfl)); replace HB := Z.m (hb); replace HI0 := Z.m (hi); (try clear hb); (try clear Ae); (try clear hk); (try clear hi)) | ((with_reducible refine gc (f := 58) rfl ?_); refine gA (some 15) _ #[.pointer (some ⟨g, 0, none⟩)] ?_ Try.func58; (with_reducible refine (spec_l1Cur_next.calls g s0_0 A1 A2 A3 A5 A7 w0 _ ?side1 ?side2 A6.o).mono ?_); (case side1 => repeat (first | (with_reducible first | exact HI0.o | apply IsS56.alloc | apply IsS56.drewN | apply IsS56.drew | apply IsS56.set_1 | apply IsS56.set_2) | exact HI0.o)); (case side2 => repeat (first | (with_reducible first | exact HB.o | apply qa | apply qn | apply qd | refine qx ?_ (IsS56.ge HI0.o)) | exact HB.o)); rintro e w9 ⟨rfl, hi, hb, hk⟩; refine ⟨_, rfl, ?_⟩; replace HK := Z.m (KeepBut.trans (by repeat (first | (with_reducible first | exact HK.o | apply KeepBut.set_ | apply keep_drewN | apply keep_drew | apply keep_alloc) | exact HK.o)) hk (.inl rfl)); replace HB := Z.m (hb); replace HI0 := Z.m (hi); (try clear hb); (try clear Ae); (try clear hk); (try clear hi)))
    go_ret
    exact ⟨by first | rfl | (simp [eN, eS] <;> rfl) | (simp [*, eN, eS] <;> rfl), by repeat (first | (with_reducible first | exact HI0.o | apply IsS56.alloc | apply IsS56.drewN | apply IsS56.drew | apply IsS56.set_1 | apply IsS56.set_2) | exact HI0.o), by repeat (first | (with_reducible first | exact HB.o | apply qa | apply qn | apply qd | refine qx ?_ (IsS56.ge HI0.o)) | exact HB.o), by repeat (first | (with_reducible first | exact HK.o | apply KeepBut.set_ | apply keep_drewN | apply keep_drew | apply keep_alloc) | exact HK.o)⟩
  ·rw [if_neg c5] at H
   have A9 := decide_eq_false c5
   clear c5
   by_cases c10 : a1 = 0
   ·rw [if_pos c10] at H
    exact absurd H (by simp)
   ·rw [if_neg c10] at H
    have Ac := beq_eq_false_iff_ne.mpr c10
    have Ad := bne_iff_ne.mpr c10
    simp only [Option.some.injEq, Prod.mk.injEq] at H
    obtain ⟨rfl, rfl, rfl⟩ := H
    go_enter Try.func47, Try.ntmps47
    go_wp2_with (first | ((with_reducible refine gc (f := 58) rfl ?_); refine gA (some 9) _ #[.pointer (some ⟨g, 0, none⟩)] ?_ Try.func58; (with_reducible refine (spec_l1Cur_next.calls g s0_0 s0_1 s0_2 A0 A1 A2 w0 _ ?side1 ?side2 A4.o).mono ?_); (case side1 => repeat (first | (with_reducible first | exact HI0.o | apply IsS56.alloc | apply IsS56.drewN | apply IsS56.drew | apply IsS56.set_1 | apply IsS56.set_2) | exact HI0.o)); (case side2 => repeat (first | (with_reducible first | exact HB.o | apply qa | apply qn | apply qd | refine qx ?_ (IsS56.ge HI0.o)) | exact HB.o)); rintro e Ah ⟨rfl, hi, hb, hk⟩; refine ⟨_, rfl, ?_⟩; replace HK := Z.m (KeepBut.trans (by repeat (first | (with_reducible first | exact HK.o | apply KeepBut.set_ | apply keep_drewN | apply keep_drew | apply keep_alloc) | exact HK.o)) hk (.inl rfl)); replace HB := Z.m (hb); replace HI0 := Z.m (hi); (try clear hb); (try clear Ae); (try clear hk); (try clear hi)))
    go_ret
    exact ⟨by first | rfl | (simp [eN, eS] <;> rfl) | (simp [*, eN, eS] <;> rfl), by repeat (first | (with_reducible first | exact HI0.o | apply IsS56.alloc | apply IsS56.drewN | apply IsS56.drew | apply IsS56.set_1 | apply IsS56.set_2) | exact HI0.o), by repeat (first | (with_reducible first | exact HB.o | apply qa | apply qn | apply qd | refine qx ?_ (IsS56.ge HI0.o)) | exact HB.o), by repeat (first | (with_reducible first | exact HK.o | apply KeepBut.set_ | apply keep_drewN | apply keep_drew | apply keep_alloc) | exact HK.o)⟩

/-! ### spec_l1Cur_among: function 44 -/
def spec_l1Cur_among.f (s0_0 : List Int) (s0_1 : Int) (s0_2 : Int) (l1 : List Int) : Option (Int × Int × Int) := (spec_l1Cur_pick.f s0_0 s0_1 s0_2 (l1.length : Int)).bind fun bt109 => (if 0 ≤ bt109.1 then (if bt109.1 < (l1.length : Int) then (some (rd l1 bt109.1, bt109.2.1, bt109.2.2)) else (none)) else (none))
set_option maxHeartbeats 8000000 in
set_option maxRecDepth 100000 in
theorem spec_l1Cur_among.calls (g : Nat) (s0_0 : List Int) (s0_1 : Int) (s0_2 : Int) (A1 : Option Addr) (c1 : Nat) (l1 : List Int) (r1 : Int) (r2 : Int) (r3 : Int) (w0 w : World) (hI : IsS56 w0 w g s0_0 s0_1 s0_2) (hB : Below w0.heap.size w0 w) (hr1 : Kd.C (Kd.int .i64) w A1 l1.length l1) (hc1 : l1.length ≤ c1) (hf1 : ∀ ad, A1 = some ad → 0 < l1.length → ad.block ≠ g) (h : spec_l1Cur_among.f s0_0 s0_1 s0_2 l1 = some (r1, r2, r3)) :
 Calls Try.prog 44 #[.pointer (some ⟨g, 0, none⟩), .slice A1 l1.length c1] w fun e w' => e = .returned (.int .i64 r1) ∧ IsS56 w0 w' g s0_0 r2 r3 ∧ Below w0.heap.size w0 w' ∧ KeepBut w w' g none := by
 have A8 := Z.m hr1
 have Ab := Z.m hc1
 clear hr1 hc1
 have HI0 := Z.m hI
 have HK := Z.m (KeepBut.refl w g none)
 have HL := Z.m hB.size
 clear hI
 have HW0 := Z.m hB.size
 have HB := Z.m hB
 clear hB
 have H : ((spec_l1Cur_pick.f s0_0 s0_1 s0_2 (l1.length : Int)).bind fun bt109 => (if 0 ≤ bt109.1 then (if bt109.1 < (l1.length : Int) then (some (rd l1 bt109.1, bt109.2.1, bt109.2.2)) else (none)) else (none))) = some (r1, r2, r3) := h
 clear h
 replace H := Option.bind_eq_some_iff.mp H
 obtain ⟨⟨A0, A5, A6⟩, A7, H⟩ := H
 replace H : (if 0 ≤ A0 then (if A0 < (l1.length : Int) then (some (rd l1 A0, A5, A6)) else (none)) else (none)) = some (r1, r2, r3) := H
 have A3 := Z.m A7
 clear A7
 by_cases c4 : 0 ≤ A0
 ·rw [if_pos c4] at H
  have A9 := decide_eq_true c4
  clear c4
  by_cases c5 : A0 < (l1.length : Int)
  ·rw [if_pos c5] at H
   have Aa := decide_eq_true c5
   clear c5
   simp only [Option.some.injEq, Prod.mk.injEq] at H
   obtain ⟨rfl, rfl, rfl⟩ := H
   go_enter Try.func44, Try.ntmps44
   go_wp2_with (first | ((with_reducible refine gc (f := 47) rfl ?_); refine gA (some 9) _ #[.pointer (some ⟨g, 0, none⟩), .int .i64 (l1.length : Int)] ?_ Try.func47; (with_reducible refine (spec_l1Cur_pick.calls g s0_0 s0_1 s0_2 (l1.length : Int) A0 A5 A6 w0 _ ?side1 ?side2 A3.o).mono ?_); (case side1 => repeat (first | (with_reducible first | exact HI0.o | apply IsS56.alloc | apply IsS56.drewN | apply IsS56.drew | apply IsS56.set_1 | apply IsS56.set_2) | exact HI0.o)); (case side2 => repeat (first | (with_reducible first | exact HB.o | apply qa | apply qn | apply qd | refine qx ?_ (IsS56.ge HI0.o)) | exact HB.o)); rintro e w6 ⟨rfl, hi, hb, hk⟩; refine ⟨_, rfl, ?_⟩; replace HK := Z.m (KeepBut.trans (by repeat (first | (with_reducible first | exact HK.o | apply KeepBut.set_ | apply keep_drewN | apply keep_drew | apply keep_alloc) | exact HK.o)) hk (.inl rfl)); replace HB := Z.m (hb); replace HI0 := Z.m (hi); (try clear hb); (try clear Ac); (try clear hk); (try clear hi); have p112 : 0 ≤ (A0 : Int) := ofD; have q112 : A0 < (l1.length : Int) := ofD; obtain ⟨A4, e112, A2⟩ := Kd.at_int A8.o A0 p112 q112; cases e112; replace A2 := keep_cell HK.o A2 (by first | (rw [add_block]; exact hf1 _ rfl (by omega)) | exact hf1 _ rfl (by omega) | exact hf1 A4 rfl (by omega)); replace p112 := eq_true p112; replace q112 := eq_true q112))
   go_ret
   exact ⟨by first | rfl | (simp [eN, eS] <;> rfl) | (simp [*, eN, eS] <;> rfl), by repeat (first | (with_reducible first | exact HI0.o | apply IsS56.alloc | apply IsS56.drewN | apply IsS56.drew | apply IsS56.set_1 | apply IsS56.set_2) | exact HI0.o), by repeat (first | (with_reducible first | exact HB.o | apply qa | apply qn | apply qd | refine qx ?_ (IsS56.ge HI0.o)) | exact HB.o), by repeat (first | (with_reducible first | exact HK.o | apply KeepBut.set_ | apply keep_drewN | apply keep_drew | apply keep_alloc) | exact HK.o)⟩
  ·rw [if_neg c5] at H
   exact absurd H (by simp)
 ·rw [if_neg c4] at H
  exact absurd H (by simp)

/-! ### spec_paTurning: function 41 -/
def spec_paTurning.f (a0_0 : Int) (a0_1 : Int) : Option (Bool) := if a0_0 = 3 then (some true) else (some (a0_0 == 6))
set_option maxHeartbeats 8000000 in
set_option maxRecDepth 100000 in
theorem spec_paTurning.calls (a0_0 : Int) (a0_1 : Int) (r : Bool) (w : World) (h : spec_paTurning.f a0_0 a0_1 = some r) :
 Calls Try.prog 41 #[.agg #[.int .i64 a0_0, .int .i64 a0_1]] w fun e w' => e = .returned (.bool r) ∧ Below w.heap.size w w' := by
 have Ae := Try.underlying25
 have HB := Z.m (Below.refl w.heap.size w)
 have H : (if a0_0 = 3 then (some true) else (some (a0_0 == 6))) = some r := h
 clear h
 by_cases c2 : a0_0 = 3
 ·rw [if_pos c2] at H
  have A4 := beq_iff_eq.mpr c2
  have A5 := bne_eq_false_iff_eq.mpr c2
  clear c2
  obtain rfl := Option.some.inj H
  go_enter Try.func41, Try.ntmps41
  go_wp2_with (first | ((with_reducible refine gq (N := 1) rfl ?_); refine be (N := 1) (cs := #[.int .i64 a0_0, .int .i64 a0_1]) (t := 25) ?_; intro A3 hg w3 hbox hb; have A0 := Z.m (hbox); have A1 := gW (w := w) HB hg; have A2 := A1; replace HB := bB HB hb; clear hb hbox hg; have A6 := bc0 A0; have A7 := bc1 A0; have Aa := qz A0.o 0; have Ab := qz A0.o 1))
  go_ret
  exact ⟨by first | rfl | (simp [eN, eS] <;> rfl) | (simp [*, eN, eS] <;> rfl), vB HB⟩
 ·rw [if_neg c2] at H
  have A4 := beq_eq_false_iff_ne.mpr c2
  have A5 := bne_iff_ne.mpr c2
  obtain rfl := Option.some.inj H
  go_enter Try.func41, Try.ntmps41
  go_wp2_with (first | ((with_reducible refine gq (N := 1) rfl ?_); refine be (N := 1) (cs := #[.int .i64 a0_0, .int .i64 a0_1]) (t := 25) ?_; intro A3 hg w5 hbox hb; have A0 := Z.m (hbox); have A1 := gW (w := w) HB hg; have A2 := A1; replace HB := bB HB hb; clear hb hbox hg; have A8 := bc0 A0; have A9 := bc1 A0; have Ac := qz A0.o 0; have Ad := qz A0.o 1))
  go_ret
  exact ⟨by first | rfl | (simp [eN, eS] <;> rfl) | (simp [*, eN, eS] <;> rfl), vB HB⟩

/-! ### spec_paAll: function 59 -/
def spec_paAll.l0 : Nat → List (S25) → Int → Option ((List (S25)))
 | 0, _, _ => none
 | k + 1, x1, x2 => if x2 ≤ 7 then (if x1.length < 8796093022208 then ((some (x1 ++ [(⟨x2, 0⟩ : S25)] : List (S25))).bind fun y114 => ((spec_paTurning.f x2 1).bind fun t118 => (if t118 = true then (if y114.length < 8796093022208 then (spec_paAll.l0 k (y114 ++ [(⟨x2, 1⟩ : S25)]) (wrap64 (x2 + 1))) else (none)) else (spec_paAll.l0 k y114 (wrap64 (x2 + 1)))))) else (none)) else (some x1)
def spec_paAll.f (k : Nat)  : Option ((List (S25))) := spec_paAll.l0 k ([] : List (S25)) 0
set_option maxHeartbeats 8000000 in
set_option maxRecDepth 100000 in
theorem spec_paAll.calls (k : Nat)  (r : List (S25)) (w : World) (h : spec_paAll.f k  = some r) :
 Calls Try.prog 59 #[] w fun e w' => ∃ v0_ : Value, e = .returned (v0_) ∧ Kd.R k25 25 w' w.heap.size (fun _ => True) v0_ r ∧ Below w.heap.size w w' := by
 have AA := Try.underlying25
 have HB := Z.m (Below.refl w.heap.size w)
 have H : (spec_paAll.l0 k ([] : List (S25)) 0) = some r := h
 clear h
 have H' := Z.m H
 clear H
 go_enter Try.func59, Try.ntmps59
 go_wp2
 go_loopg [1, 2] k (fun kq v1 v2 w' => ∃ (A8 : List (S25)) (A0 : Int), v2 = .int .i64 A0 ∧ Z (spec_paAll.l0 kq A8 A0 = some r) ∧ Z (kq ≤ k) ∧ Z (Kd.R k25 25 w' w.heap.size (fun _ => True) v1 A8) ∧ Z (Below w.heap.size w w'))
 case atStart => exact ⟨(([] : List (S25))), (0), (by first | rfl | (simp; done) | (simp [*]; done)), H', ⟨Nat.le_refl _⟩, ⟨by first | exact Kd.R_nil _ _ _ _ _ | exact Kd.N_nil _ _ _ _ _ | exact Kd.V_nil _ _ _ _ _ | exact Kd.Q_nil _ _ _ _ _ | exact Kd.S_nil _ _ _ _ _⟩, ⟨vB HB⟩⟩
 case round =>
  clear H'
  obtain ⟨A8, A0, rfl, HA, Aj, Aa, HB⟩ := hrel
  cases gk with
  | zero => exact absurd HA.o (by simp [spec_paAll.l0])
  | succ k1 =>
   have H := HA.o
   clear HA
   simp only [spec_paAll.l0] at H
   by_cases c1 : A0 ≤ 7
   ·rw [if_pos c1] at H
    have At := decide_eq_true c1
    clear c1
    by_cases c2 : A8.length < 8796093022208
    ·rw [if_pos c2] at H
     have Af := Z.m c2
     clear c2
     obtain ⟨A5, A6⟩ : ∃ y_ : List (S25), y_ = (A8 ++ [(⟨A0, 0⟩ : S25)]) := ⟨_, rfl⟩
     replace H : ((spec_paTurning.f A0 1).bind fun Ab => (if Ab = true then (if A5.length < 8796093022208 then (spec_paAll.l0 k1 (A5 ++ [(⟨A0, 1⟩ : S25)]) (wrap64 (A0 + 1))) else (none)) else (spec_paAll.l0 k1 A5 (wrap64 (A0 + 1))))) = some r := by first | (rw [A6]; with_reducible exact H) | (have H2_ := (Option.bind_some _ _).symm.trans H; rw [A6]; with_reducible exact H2_) | (have H2_ := (Option.bind_some _ _).symm.trans H; with_reducible exact H2_) | with_reducible exact H | (rw [A6]; exact H) | exact H
     have Ac := Z.m A6
     clear A6
     replace H := Option.bind_eq_some_iff.mp H
     obtain ⟨Ab, Ay, H⟩ := H
     replace H : (if Ab = true then (if A5.length < 8796093022208 then (spec_paAll.l0 k1 (A5 ++ [(⟨A0, 1⟩ : S25)]) (wrap64 (A0 + 1))) else (none)) else (spec_paAll.l0 k1 A5 (wrap64 (A0 + 1)))) = some r := H
     have A3 := Z.m Ay
     clear Ay
     by_cases c4 : Ab = true
     ·subst c4
      have H1 : (if A5.length < 8796093022208 then (spec_paAll.l0 k1 (A5 ++ [(⟨A0, 1⟩ : S25)]) (wrap64 (A0 + 1))) else (none)) = some r := by rw [if_pos rfl] at H; exact H
      clear H
      have H := H1
      clear H1
      by_cases c5 : A5.length < 8796093022208
      ·rw [if_pos c5] at H
       have As := Z.m c5
       clear c5
       obtain ⟨Ai, A7⟩ : ∃ y_ : List (S25), y_ = (A5 ++ [(⟨A0, 1⟩ : S25)]) := ⟨_, rfl⟩
       replace H : (spec_paAll.l0 k1 Ai (wrap64 (A0 + 1))) = some r := by first | (rw [A7]; with_reducible exact H) | (have H2_ := (Option.bind_some _ _).symm.trans H; rw [A7]; with_reducible exact H2_) | (have H2_ := (Option.bind_some _ _).symm.trans H; with_reducible exact H2_) | with_reducible exact H | (rw [A7]; exact H) | exact H
       have Ag := Z.m A7
       clear A7
       have H' := Z.m H
       clear H
       go_wp2_with (first | ((with_reducible refine gu (b := .append) (xs := #[.tmp 8, .tmp 11]) rfl ?_); at_builtin; refine Kd.R_append k25 (w0 := w) w.heap.size rfl (.tmp 8) (.tmp 11) 40 25 (.agg #[(.int .i64 0), (.int .i64 0)]) 16 rfl Try.underlying40 info25 rfl (by decide) (by omega) u1 A8 (⟨A0, 0⟩ : S25) [.int .i64 A0, .int .i64 0] (fun _ => True) (fun _ => False) rfl rfl ?aP (fun _ hk => hk.elim) ?aF ?aO ?aB ?aS ?aL ?_; (case aP => exact k25_mkM _ _ _ (⟨A0, 0⟩ : S25)); (case aB => exact (vB HB)); (case aF => exact (fun _ _ => trivial)); (case aO => exact (vR Aa)); (case aS => exact (below_size (vB HB))); (case aL => have := Af.o; omega); intro Ah w6 ho hb hg hat; rw [← Ac.o] at ho; have A2 := Z.m (ho); replace HB := Z.m (hb); clear Aa; clear ho hb hg hat) | ((with_reducible refine gq (N := 3) rfl ?_); refine be (N := 3) (cs := #[.int .i64 0, .int .i64 0]) (t := 25) ?_; intro A4 hg w7 hbox hb; have A1 := Z.m (hbox); have A9 := gW (w := w) HB hg; have Ad := A9; replace A2 := Z.m (Kd.Rb (Kd.R_elderB (vR A2) A4 (Nat.le_of_eq hg.symm)) hb); replace HB := bB HB hb; clear hb hbox hg; have Au := bc0 A1; have Av := bc1 A1; have Aw := qz A1.o 0; have Ax := qz A1.o 1) | ((with_reducible refine gc (f := 41) rfl ?_); refine gA (some 16) _ #[.agg #[.int .i64 A0, .int .i64 1]] ?_ Try.func41; (with_reducible refine (spec_paTurning.calls A0 1 true _ A3.o).mono ?_); rintro e w9 ⟨rfl, hb⟩; refine ⟨_, rfl, ?_⟩; replace A2 := Z.m (Kd.Rb (by refine rK ?_; exact (Kd.Rm (rf (rf (Kd.Rm A2.o (fun k_ hk => (⟨hk, hk.2⟩ : _ ∧ k_ ≠ A4))))) (fun _ h_ => h_.1))) hb); replace A1 := Z.m (qb (g := A4) (o := .cells #[.int .i64 A0, .int .i64 1] 25 (0, 0)) (by refine bK ?_; refine qp (cs := #[iV A0, iV 0]) ?_ 1 _ rfl; refine bK ?_; refine qp (cs := #[iV 0, iV 0]) ?_ 0 _ rfl; refine bK ?_; exact A1.o) hb); replace HB := bB HB hb; (try clear hb); (try clear Az); (try clear hk); (try clear hi); have Ak := bc0 A1; have Al := bc1 A1; have Ao := qz A1.o 0; have Ap := qz A1.o 1) | ((with_reducible refine gu (b := .append) (xs := #[.tmp 17, .tmp 19]) rfl ?_); at_builtin; refine Kd.R_append k25 (w0 := w) w.heap.size rfl (.tmp 17) (.tmp 19) 40 25 (.agg #[(.int .i64 0), (.int .i64 0)]) 16 rfl Try.underlying40 info25 rfl (by decide) (by omega) Ah A5 (⟨A0, 1⟩ : S25) [.int .i64 A0, .int .i64 1] (fun k_ => k_ ≠ A4) (fun _ => False) rfl rfl ?aP (fun _ hk => hk.elim) ?aF ?aO ?aB ?aS ?aL ?_; (case aP => exact k25_mkM _ _ _ (⟨A0, 1⟩ : S25)); (case aB => exact (vB HB)); (case aF => exact (fun k_ hk => Kd.freshB (g := A4) (o := .cells #[.int .i64 A0, .int .i64 1] 25 (0, 0)) (vK A1) k_ hk)); (case aO => exact (by refine rK ?_; exact Kd.Rm A2.o (fun _ hk => hk.2))); (case aS => exact (below_size (vB HB))); (case aL => have := As.o; omega); intro AB AC ho hb hg hat; rw [← Ag.o] at ho; have Ae := Z.m (ho); replace A1 := Z.m (qg (g := A4) (o := .cells #[.int .i64 A0, .int .i64 1] 25 (0, 0)) (vK A1) hg (Kd.R_away A2.o (fun _ hk => hk.2))); replace HB := Z.m (hb); clear A2; clear ho hb hg hat))
       go_roundg k1
       case measure => have := Aj.o; omega
       case rel => exact ⟨(Ai), (wrap64 (A0 + 1)), (by first | rfl | (simp; done) | (simp [*]; done)), H', ⟨by have := Aj.o; omega⟩, ⟨by refine rK ?_; exact Kd.Rm Ae.o (fun _ hk => trivial)⟩, ⟨vB HB⟩⟩
      ·rw [if_neg c5] at H
       exact absurd H (by simp)
     ·replace c4 := Bool.eq_false_iff.mpr c4
      subst c4
      have H1 : (spec_paAll.l0 k1 A5 (wrap64 (A0 + 1))) = some r := by rw [if_neg (show ¬ (false = true) by decide)] at H; exact H
      clear H
      have H := H1
      clear H1
      have H' := Z.m H
      clear H
      go_wp2_with (first | ((with_reducible refine gu (b := .append) (xs := #[.tmp 8, .tmp 11]) rfl ?_); at_builtin; refine Kd.R_append k25 (w0 := w) w.heap.size rfl (.tmp 8) (.tmp 11) 40 25 (.agg #[(.int .i64 0), (.int .i64 0)]) 16 rfl Try.underlying40 info25 rfl (by decide) (by omega) u1 A8 (⟨A0, 0⟩ : S25) [.int .i64 A0, .int .i64 0] (fun _ => True) (fun _ => False) rfl rfl ?aP (fun _ hk => hk.elim) ?aF ?aO ?aB ?aS ?aL ?_; (case aP => exact k25_mkM _ _ _ (⟨A0, 0⟩ : S25)); (case aB => exact (vB HB)); (case aF => exact (fun _ _ => trivial)); (case aO => exact (vR Aa)); (case aS => exact (below_size (vB HB))); (case aL => have := Af.o; omega); intro Ah AD ho hb hg hat; rw [← Ac.o] at ho; have A2 := Z.m (ho); replace HB := Z.m (hb); clear Aa; clear ho hb hg hat) | ((with_reducible refine gq (N := 3) rfl ?_); refine be (N := 3) (cs := #[.int .i64 0, .int .i64 0]) (t := 25) ?_; intro A4 hg AE hbox hb; have A1 := Z.m (hbox); have A9 := gW (w := w) HB hg; have Ad := A9; replace A2 := Z.m (Kd.Rb (Kd.R_elderB (vR A2) A4 (Nat.le_of_eq hg.symm)) hb); replace HB := bB HB hb; clear hb hbox hg; have Am := bc0 A1; have An := bc1 A1; have Aq := qz A1.o 0; have Ar := qz A1.o 1) | ((with_reducible refine gc (f := 41) rfl ?_); refine gA (some 16) _ #[.agg #[.int .i64 A0, .int .i64 1]] ?_ Try.func41; (with_reducible refine (spec_paTurning.calls A0 1 false _ A3.o).mono ?_); rintro e AF ⟨rfl, hb⟩; refine ⟨_, rfl, ?_⟩; replace A2 := Z.m (Kd.Rb (by refine rK ?_; exact (Kd.Rm (rf (rf (Kd.Rm A2.o (fun k_ hk => (⟨hk, hk.2⟩ : _ ∧ k_ ≠ A4))))) (fun _ h_ => h_.1))) hb); replace A1 := Z.m (qb (g := A4) (o := .cells #[.int .i64 A0, .int .i64 1] 25 (0, 0)) (by refine bK ?_; refine qp (cs := #[iV A0, iV 0]) ?_ 1 _ rfl; refine bK ?_; refine qp (cs := #[iV 0, iV 0]) ?_ 0 _ rfl; refine bK ?_; exact A1.o) hb); replace HB := bB HB hb; (try clear hb); (try clear Az); (try clear hk); (try clear hi)))
      go_roundg k1
      case measure => have := Aj.o; omega
      case rel => exact ⟨(A5), (wrap64 (A0 + 1)), (by first | rfl | (simp; done) | (simp [*]; done)), H', ⟨by have := Aj.o; omega⟩, ⟨by refine rK ?_; exact Kd.Rm A2.o (fun _ hk => trivial)⟩, ⟨vB HB⟩⟩
    ·rw [if_neg c2] at H
     exact absurd H (by simp)
   ·rw [if_neg c1] at H
    have At := decide_eq_false c1
    clear c1
    obtain rfl := Option.some.inj H
    go_wp2
    go_ret
    exact ⟨_, by first | rfl | (simp [eN, eS] <;> rfl) | (simp [*, eN, eS] <;> rfl), vR Aa, vB HB⟩

/-! ### spec_l1Cur_cell: function 57 -/
def spec_l1Cur_cell.f (k : Nat) (s0_0 : List Int) (s0_1 : Int) (s0_2 : Int) : Option (Int × Int × Int × Int) := (spec_paAll.f k).bind fun t123 => ((spec_l1Cur_pick.f s0_0 s0_1 s0_2 (t123.length : Int)).bind fun bt126 => (if 0 ≤ bt126.1 then (if bt126.1 < (t123.length : Int) then (some ((rd_T25 t123 bt126.1).f0, (rd_T25 t123 bt126.1).f1, bt126.2.1, bt126.2.2)) else (none)) else (none)))
set_option maxHeartbeats 8000000 in
set_option maxRecDepth 100000 in
theorem spec_l1Cur_cell.calls (k : Nat) (g : Nat) (s0_0 : List Int) (s0_1 : Int) (s0_2 : Int) (r1 : Int) (r2 : Int) (r3 : Int) (r4 : Int) (w0 w : World) (hI : IsS56 w0 w g s0_0 s0_1 s0_2) (hB : Below w0.heap.size w0 w) (h : spec_l1Cur_cell.f k s0_0 s0_1 s0_2 = some (r1, r2, r3, r4)) :
 Calls Try.prog 57 #[.pointer (some ⟨g, 0, none⟩)] w fun e w' => e = .returned (.agg #[.int .i64 r1, .int .i64 r2]) ∧ IsS56 w0 w' g s0_0 r3 r4 ∧ Below w0.heap.size w0 w' ∧ KeepBut w w' g none := by
 have At := Try.underlying25
 have HI0 := Z.m hI
 have HK := Z.m (KeepBut.refl w g none)
 have HL := Z.m hB.size
 clear hI
 have HW0 := Z.m hB.size
 have HB := Z.m hB
 clear hB
 have H : ((spec_paAll.f k).bind fun A0 => ((spec_l1Cur_pick.f s0_0 s0_1 s0_2 (A0.length : Int)).bind fun bt126 => (if 0 ≤ bt126.1 then (if bt126.1 < (A0.length : Int) then (some ((rd_T25 A0 bt126.1).f0, (rd_T25 A0 bt126.1).f1, bt126.2.1, bt126.2.2)) else (none)) else (none)))) = some (r1, r2, r3, r4) := h
 clear h
 replace H := Option.bind_eq_some_iff.mp H
 obtain ⟨A0, Aj, H⟩ := H
 replace H : ((spec_l1Cur_pick.f s0_0 s0_1 s0_2 (A0.length : Int)).bind fun bt126 => (if 0 ≤ bt126.1 then (if bt126.1 < (A0.length : Int) then (some ((rd_T25 A0 bt126.1).f0, (rd_T25 A0 bt126.1).f1, bt126.2.1, bt126.2.2)) else (none)) else (none))) = some (r1, r2, r3, r4) := H
 have A2 := Z.m Aj
 clear Aj
 replace H := Option.bind_eq_some_iff.mp H
 obtain ⟨⟨A5, Ab, Ac⟩, Ak, H⟩ := H
 replace H : (if 0 ≤ A5 then (if A5 < (A0.length : Int) then (some ((rd_T25 A0 A5).f0, (rd_T25 A0 A5).f1, Ab, Ac)) else (none)) else (none)) = some (r1, r2, r3, r4) := H
 have A3 := Z.m Ak
 clear Ak
 by_cases c4 : 0 ≤ A5
 ·rw [if_pos c4] at H
  have Ap := decide_eq_true c4
  clear c4
  by_cases c5 : A5 < (A0.length : Int)
  ·rw [if_pos c5] at H
   have Aq := decide_eq_true c5
   clear c5
   simp only [Option.some.injEq, Prod.mk.injEq] at H
   obtain ⟨rfl, rfl, rfl, rfl⟩ := H
   go_enter Try.func57, Try.ntmps57
   go_wp2_with (first | ((with_reducible refine gq (N := 2) rfl ?_); refine be (N := 2) (cs := #[.int .i64 0, .int .i64 0]) (t := 25) ?_; intro A6 hg w6 hbox hb; have A1 := Z.m (hbox); have A7 := Z.m ((by rw [hg]; exact (keep_size (w := w) (g := g) (row := none) (by repeat (first | (with_reducible first | exact HK.o | apply KeepBut.set_ | apply keep_drewN | apply keep_drew | apply keep_alloc) | exact HK.o))) : w.heap.size ≤ A6)); have Aa := Z.m ((Nat.le_trans HW0.o (by rw [hg]; exact (keep_size (w := w) (g := g) (row := none) (by repeat (first | (with_reducible first | exact HK.o | apply KeepBut.set_ | apply keep_drewN | apply keep_drew | apply keep_alloc) | exact HK.o))) : w.heap.size ≤ A6) : w0.heap.size ≤ A6)); have A4 := Z.m ((by rw [hg]; exact Nat.ne_of_lt (IsS56.lt (show IsS56 w0 _ g s0_0 s0_1 s0_2 from by repeat (first | (with_reducible first | exact HI0.o | apply IsS56.alloc | apply IsS56.drewN | apply IsS56.drew | apply IsS56.set_1 | apply IsS56.set_2) | exact HI0.o))) : g ≠ A6)); have A9 := Z.m ((by rw [hg]; exact Nat.ne_of_gt (IsS56.lt (show IsS56 w0 _ g s0_0 s0_1 s0_2 from by repeat (first | (with_reducible first | exact HI0.o | apply IsS56.alloc | apply IsS56.drewN | apply IsS56.drew | apply IsS56.set_1 | apply IsS56.set_2) | exact HI0.o))) : A6 ≠ g)); replace HK := Z.m (KeepBut.trans (by repeat (first | (with_reducible first | exact HK.o | apply KeepBut.set_ | apply keep_drewN | apply keep_drew | apply keep_alloc) | exact HK.o)) (KeepBut.of_below hb g none) (.inl rfl)); replace HB := Z.m (below_step (by repeat (first | (with_reducible first | exact HB.o | apply qa | apply qn | apply qd | refine qx ?_ (IsS56.ge HI0.o)) | exact HB.o)) hb); replace HI0 := Z.m (IsS56.below (by repeat (first | (with_reducible first | exact HI0.o | apply IsS56.alloc | apply IsS56.drewN | apply IsS56.drew | apply IsS56.set_1 | apply IsS56.set_2) | exact HI0.o)) hb); clear hb hbox hg) | ((with_reducible refine gc (f := 59) rfl ?_); refine gA (some 4) _ #[] ?_ Try.func59; (with_reducible refine (spec_paAll.calls k  A0 _ A2.o).mono ?_); rintro e w7 ⟨Au, rfl, Ao, hb⟩; refine ⟨_, rfl, ?_⟩; have A8 := Z.m (Kd.R_lower (Kd.R_newB Ao (g := A6) (o := .cells #[.int .i64 0, .int .i64 0] 25 (0, 0)) (vK A1)) (keep_size (w := w) (g := g) (row := none) (by repeat (first | (with_reducible first | exact HK.o | apply KeepBut.set_ | apply keep_drewN | apply keep_drew | apply keep_alloc | refine keep_far ?_ A7.o _) | exact HK.o)))); replace A1 := kB A1 hb; replace HK := Z.m (KeepBut.trans (by repeat (first | (with_reducible first | exact HK.o | apply KeepBut.set_ | apply keep_drewN | apply keep_drew | apply keep_alloc | refine keep_far ?_ A7.o _) | exact HK.o)) (KeepBut.of_below hb g none) (.inl rfl)); replace HB := Z.m (below_step (by repeat (first | (with_reducible first | exact HB.o | apply qa | apply qn | apply qd | refine qx ?_ (IsS56.ge HI0.o) | refine qx ?_ Aa.o) | exact HB.o)) hb); replace HI0 := Z.m (IsS56.below (by repeat (first | (with_reducible first | exact HI0.o | apply IsS56.alloc | apply IsS56.drewN | apply IsS56.drew | apply IsS56.set_1 | apply IsS56.set_2 | refine IsS56.far ?_ A4.o _) | exact HI0.o)) hb); (try clear hb); (try clear As); (try clear hk); (try clear hi); (try clear Ao); obtain ⟨Av, Aw, Ar⟩ := Kd.R_slice A8.o; subst Ar) | ((with_reducible refine gc (f := 47) rfl ?_); refine gA (some 9) _ #[.pointer (some ⟨g, 0, none⟩), .int .i64 (A0.length : Int)] ?_ Try.func47; (with_reducible refine (spec_l1Cur_pick.calls g s0_0 s0_1 s0_2 (A0.length : Int) A5 Ab Ac w0 _ ?side1 ?side2 A3.o).mono ?_); (case side1 => repeat (first | (with_reducible first | exact HI0.o | apply IsS56.alloc | apply IsS56.drewN | apply IsS56.drew | apply IsS56.set_1 | apply IsS56.set_2 | refine IsS56.far ?_ A4.o _) | exact HI0.o)); (case side2 => repeat (first | (with_reducible first | exact HB.o | apply qa | apply qn | apply qd | refine qx ?_ (IsS56.ge HI0.o) | refine qx ?_ Aa.o) | exact HB.o)); rintro e w9 ⟨rfl, hi, hb, hk⟩; refine ⟨_, rfl, ?_⟩; replace A1 := Z.m (KeepBut.blk hk (g' := A6) (o := .cells #[.int .i64 0, .int .i64 0] 25 (0, 0)) (vK A1) A9.o (by simp)); replace A8 := Z.m (Kd.Rm (Kd.R_keep (IsS56.apart (show IsS56 w0 _ g s0_0 s0_1 s0_2 from by repeat (first | (with_reducible first | exact HI0.o | apply IsS56.alloc | apply IsS56.drewN | apply IsS56.drew | apply IsS56.set_1 | apply IsS56.set_2 | refine IsS56.far ?_ A4.o _) | exact HI0.o)) (vR A8) (by decide)) hk (fun _ h => h.2)) (fun _ h => h.1)); replace HK := Z.m (KeepBut.trans (by repeat (first | (with_reducible first | exact HK.o | apply KeepBut.set_ | apply keep_drewN | apply keep_drew | apply keep_alloc | refine keep_far ?_ A7.o _) | exact HK.o)) hk (.inl rfl)); replace HB := Z.m (hb); replace HI0 := Z.m (hi); (try clear hb); (try clear As); (try clear hk); (try clear hi); have p129 : 0 ≤ (A5 : Int) := ofD; have q129 : A5 < (A0.length : Int) := ofD; obtain ⟨Al, e129, Ah, Ai⟩ := at_T25 (Kd.RrZ A8.o).2.2 A5 p129 q129; cases e129; replace p129 := eq_true p129; replace q129 := eq_true q129; have Am := A9.o; have An := A4.o; have Ad := bc0 A1; have Ae := bc1 A1; have Af := qz A1.o 0; have Ag := qz A1.o 1))
   refine bodyPost_ret (results_cell_row rfl _ _ A6 25 #[.int .i64 ((rd_T25 A0 A5).f0), .int .i64 ((rd_T25 A0 A5).f1)] (0, 0) _ rfl (by refine bK ?_; refine qp (cs := #[iV ((rd_T25 A0 A5).f0), iV 0]) ?_ 1 _ rfl; refine bK ?_; refine qp (cs := #[iV 0, iV 0]) ?_ 0 _ rfl; refine bK ?_; exact A1.o) Try.underlying25 rfl (by kernel_rfl)) rfl ?_
   exact ⟨by first | rfl | (simp [eN, eS] <;> rfl) | (simp [*, eN, eS] <;> rfl), by repeat (first | (with_reducible first | exact HI0.o | apply IsS56.alloc | apply IsS56.drewN | apply IsS56.drew | apply IsS56.set_1 | apply IsS56.set_2 | refine IsS56.far ?_ A4.o _) | exact HI0.o), by repeat (first | (with_reducible first | exact HB.o | apply qa | apply qn | apply qd | refine qx ?_ (IsS56.ge HI0.o) | refine qx ?_ Aa.o) | exact HB.o), by repeat (first | (with_reducible first | exact HK.o | apply KeepBut.set_ | apply keep_drewN | apply keep_drew | apply keep_alloc | refine keep_far ?_ A7.o _) | exact HK.o)⟩
  ·rw [if_neg c5] at H
   exact absurd H (by simp)
 ·rw [if_neg c4] at H
  exact absurd H (by simp)

end Go.Proofs.Ytklmdnlambinaaa.PAll
