/- Began as a text that print.sh wrote (of the functions named below); turned and shortened by this session. -/
import Derived.Test.YtlkiakpipcnijaaG0
import Derived.Test.YtlkiakpipcnijaaG1
import Derived.Test.YtlkiakpipcnijaaG2
import Derived.Test.YtlkiakpipcnijaaG3
import Derived.Test.YtlkiakpipcnijaaG4
import Derived.Test.YtlkiakpipcnijaaG9
import Derived.Test.YtlkiakpipcnijaaG14
namespace Go.Proofs.Ytlkiakpipcnijaa.PAll
open Go.RowKit Go.Proofs.YtlkiakpipcnijaaW.PrintWords Go.Proofs.YtlkiakpipcnijaaW.PrintLast Go.Proofs.YtlkiakpipcnijaaW.PrintMore
attribute [local go_sem] max2_int min2_int max_two min_two max_three min_three max_four min_four   -- for this text's walks alone
set_option linter.unusedVariables false
set_option linter.unusedSimpArgs false

/-! ### laws_FnExactLoneGears: function 11 -/
mutual
def laws_FnExactLoneGears.j0 : Nat → List Int → Bool → List Int → Bool → Bool → Int → Int → List (S84) → Int → Int → List (S71) → Option (Bool)
 | 0, _, _, _, _, _, _, _, _, _, _, _ => none
 | k + 1, x4, x5, x7, x8, x40, x316000, x316001, x316002, x332000, x332001, x332002 => if x40 = true then (some false) else ((laws_toBoard.f k x316000 x316001 x316002).bind fun bt337 => ((laws_eqBoard.f k x332000 x332001 x332002 bt337.1 bt337.2.1 bt337.2.2).bind fun t342 => (if t342 = true then ((laws_markBoard.f k x332000 x332001 x332002 1).bind fun bt343 => (if bt343.1 < 0 then (laws_FnExactLoneGears.j1 k x4 x5 x7 true x316000 x316001 x316002) else ((laws_eqIntS.f k x7 x4).bind fun t345 => (if t345 = true then (laws_FnExactLoneGears.j1 k x4 x5 x7 (x8 != x5) x316000 x316001 x316002) else (laws_FnExactLoneGears.j1 k x4 x5 x7 true x316000 x316001 x316002))))) else (some false))))
def laws_FnExactLoneGears.j1 : Nat → List Int → Bool → List Int → Bool → Int → Int → List (S84) → Option (Bool)
 | 0, _, _, _, _, _, _, _ => none
 | k + 1, x4, x5, x7, x61, x316000, x316001, x316002 => if x61 = true then (some false) else ((laws_markIntS.f k x7 1).bind fun bt346 => ((laws_heldIntS.f k bt346.2 1).bind fun t348 => (if t348 < 0 then (some false) else (if t348 = bt346.1 then ((laws_toBoard.f k x316000 x316001 x316002).bind fun bt349 => ((impl_LoneGears.f k bt349.1 bt349.2.1 bt349.2.2).bind fun bt354 => ((laws_eqIntS.f k bt354.1 x4).bind fun t358 => (if t358 = true then (laws_FnExactLoneGears.j2 k bt346.2 bt346.1 (bt354.2 != x5)) else (laws_FnExactLoneGears.j2 k bt346.2 bt346.1 true))))) else (some false)))))
def laws_FnExactLoneGears.j2 : Nat → List Int → Int → Bool → Option (Bool)
 | 0, _, _, _ => none
 | k + 1, x7, x10, x87 => if x87 = true then (some false) else ((laws_heldIntS.f k x7 1).bind fun t359 => (if t359 < 0 then (some false) else (if t359 = x10 then (some true) else (some false))))
end
def laws_FnExactLoneGears.f (k : Nat) (a0_0 : Int) (a0_1 : Int) (l0_2 : List (S84)) : Option (Bool) := (laws_szBoard.f a0_0 a0_1 l0_2 1048576).bind fun t316 => (if t316 < 0 then (some true) else ((laws_toBoard.f k a0_0 a0_1 l0_2).bind fun bt317 => ((spec_LoneGears.f k bt317.1 bt317.2.1 bt317.2.2).bind fun bt322 => ((laws_toBoard.f k a0_0 a0_1 l0_2).bind fun bt326 => ((impl_LoneGears.f k bt326.1 bt326.2.1 bt326.2.2).bind fun bt332 => ((laws_eqIntS.f k bt332.1 bt322.1).bind fun t336 => (if t336 = true then (laws_FnExactLoneGears.j0 k bt322.1 bt322.2 bt332.1 bt332.2 (bt332.2 != bt322.2) a0_0 a0_1 l0_2 bt326.1 bt326.2.1 bt326.2.2) else (laws_FnExactLoneGears.j0 k bt322.1 bt322.2 bt332.1 bt332.2 true a0_0 a0_1 l0_2 bt326.1 bt326.2.1 bt326.2.2))))))))
theorem laws_FnExactLoneGears.bad_j0 (k : Nat) (y0 : List Int) (y1 : Bool) (y2 : List Int) (y3 : Bool) (y5 : Int) (y6 : Int) (y7 : List (S84)) (y8 : Int) (y9 : Int) (y10 : List (S71)) : ¬ laws_FnExactLoneGears.j0 k y0 y1 y2 y3 true y5 y6 y7 y8 y9 y10 = some true := by
 cases k <;> simp [laws_FnExactLoneGears.j0]
theorem laws_FnExactLoneGears.bad_j1 (k : Nat) (y0 : List Int) (y1 : Bool) (y2 : List Int) (y4 : Int) (y5 : Int) (y6 : List (S84)) : ¬ laws_FnExactLoneGears.j1 k y0 y1 y2 true y4 y5 y6 = some true := by
 cases k <;> simp [laws_FnExactLoneGears.j1]
theorem laws_FnExactLoneGears.bad_j2 (k : Nat) (y0 : List Int) (y1 : Int) : ¬ laws_FnExactLoneGears.j2 k y0 y1 true = some true := by
 cases k <;> simp [laws_FnExactLoneGears.j2]
set_option maxHeartbeats 8000000 in
set_option maxRecDepth 100000 in
theorem laws_FnExactLoneGears.calls (k : Nat) (a0_0 : Int) (a0_1 : Int) (A0_2 : Option Addr) (c0_2 : Nat) (l0_2 : List (S84)) (w : World) (hr0_2 : Kd.C k84 w A0_2 l0_2.length l0_2) (hc0_2 : l0_2.length ≤ c0_2) (h : laws_FnExactLoneGears.f k a0_0 a0_1 l0_2 = some true) :
 Calls Try.prog 11 #[.agg #[.int .i64 a0_0, .int .i64 a0_1, .slice A0_2 l0_2.length c0_2]] w fun e w' => e = .returned (.bool true) ∧ Below w.heap.size w w' := by
 have Db := Try.underlying24
 have Dc := Try.underlying30
 have AA := Z.m hr0_2
 have Az := Z.m hc0_2
 clear hr0_2 hc0_2
 have HB := Z.m (Below.refl w.heap.size w)
 have H : ((laws_szBoard.f a0_0 a0_1 l0_2 1048576).bind fun AK => (if AK < 0 then (some true) else ((laws_toBoard.f k a0_0 a0_1 l0_2).bind fun bt317 => ((spec_LoneGears.f k bt317.1 bt317.2.1 bt317.2.2).bind fun bt322 => ((laws_toBoard.f k a0_0 a0_1 l0_2).bind fun bt326 => ((impl_LoneGears.f k bt326.1 bt326.2.1 bt326.2.2).bind fun bt332 => ((laws_eqIntS.f k bt332.1 bt322.1).bind fun Ao => (if Ao = true then (laws_FnExactLoneGears.j0 k bt322.1 bt322.2 bt332.1 bt332.2 (bt332.2 != bt322.2) a0_0 a0_1 l0_2 bt326.1 bt326.2.1 bt326.2.2) else (laws_FnExactLoneGears.j0 k bt322.1 bt322.2 bt332.1 bt332.2 true a0_0 a0_1 l0_2 bt326.1 bt326.2.1 bt326.2.2))))))))) = some true := h
 clear h
 replace H := Option.bind_eq_some_iff.mp H
 obtain ⟨AK, CI, H⟩ := H
 replace H : (if AK < 0 then (some true) else ((laws_toBoard.f k a0_0 a0_1 l0_2).bind fun bt317 => ((spec_LoneGears.f k bt317.1 bt317.2.1 bt317.2.2).bind fun bt322 => ((laws_toBoard.f k a0_0 a0_1 l0_2).bind fun bt326 => ((impl_LoneGears.f k bt326.1 bt326.2.1 bt326.2.2).bind fun bt332 => ((laws_eqIntS.f k bt332.1 bt322.1).bind fun Ao => (if Ao = true then (laws_FnExactLoneGears.j0 k bt322.1 bt322.2 bt332.1 bt332.2 (bt332.2 != bt322.2) a0_0 a0_1 l0_2 bt326.1 bt326.2.1 bt326.2.2) else (laws_FnExactLoneGears.j0 k bt322.1 bt322.2 bt332.1 bt332.2 true a0_0 a0_1 l0_2 bt326.1 bt326.2.1 bt326.2.2)))))))) = some true := H
 have A2 := Z.m CI
 clear CI
 by_cases c3 : AK < 0
 ·rw [if_pos c3] at H
  have C7 := decide_eq_true c3
  clear c3
  clear H
  go_enter Try.func11, Try.ntmps11
  go_wp2_with (first | ((with_reducible refine gq (N := 1) rfl ?_); refine be (N := 1) (cs := #[.int .i64 a0_0, .int .i64 a0_1, .slice A0_2 l0_2.length c0_2]) (t := 24) ?_; intro As hg w4 hbox hb; have A0 := Z.m (hbox); have AN := gW (w := w) HB hg; have AM := AN; replace HB := bB HB hb; clear hb hbox hg; have CC := bc0 A0; have CD := bc1 A0; have CE := bc2 A0; have CF := qz A0.o 0; have CG := qz A0.o 1; have CH := qz A0.o 2) | ((with_reducible refine gc (f := 15) rfl ?_); refine gA (some 16) _ #[.agg #[.int .i64 a0_0, .int .i64 a0_1, .slice A0_2 l0_2.length c0_2], .int .i64 1048576] ?_ Try.func15; (with_reducible refine (laws_szBoard.calls a0_0 a0_1 _ _ l0_2 1048576 AK _ ?side1 ?side2 A2.o).mono ?_); (case side1 => repeat (first | exact (Kd.C_below AA.o HB.o) | (with_reducible refine Kd.C_alloc ?_ _) | (with_reducible refine Kd.C_drewN ?_ _) | (with_reducible refine Kd.C_drew ?_))); (case side2 => exact Az.o); rintro e w6 ⟨rfl, hb⟩; refine ⟨_, rfl, ?_⟩; replace A0 := kB A0 hb; replace HB := bB HB hb; (try clear hb); (try clear BR); (try clear hk); (try clear hi)))
  go_ret
  exact ⟨by first | rfl | (simp [eN, eS] <;> rfl) | (simp [*, eN, eS] <;> rfl), vB HB⟩
 ·rw [if_neg c3] at H
  have C7 := decide_eq_false c3
  clear c3
  replace H := Option.bind_eq_some_iff.mp H
  obtain ⟨⟨BB, BC, AP⟩, CJ, H⟩ := H
  replace H : ((spec_LoneGears.f k BB BC AP).bind fun bt322 => ((laws_toBoard.f k a0_0 a0_1 l0_2).bind fun bt326 => ((impl_LoneGears.f k bt326.1 bt326.2.1 bt326.2.2).bind fun bt332 => ((laws_eqIntS.f k bt332.1 bt322.1).bind fun Ao => (if Ao = true then (laws_FnExactLoneGears.j0 k bt322.1 bt322.2 bt332.1 bt332.2 (bt332.2 != bt322.2) a0_0 a0_1 l0_2 bt326.1 bt326.2.1 bt326.2.2) else (laws_FnExactLoneGears.j0 k bt322.1 bt322.2 bt332.1 bt332.2 true a0_0 a0_1 l0_2 bt326.1 bt326.2.1 bt326.2.2)))))) = some true := H
  have A7 := Z.m CJ
  clear CJ
  replace H := Option.bind_eq_some_iff.mp H
  obtain ⟨⟨A6, A5⟩, CK, H⟩ := H
  replace H : ((laws_toBoard.f k a0_0 a0_1 l0_2).bind fun bt326 => ((impl_LoneGears.f k bt326.1 bt326.2.1 bt326.2.2).bind fun bt332 => ((laws_eqIntS.f k bt332.1 A6).bind fun Ao => (if Ao = true then (laws_FnExactLoneGears.j0 k A6 A5 bt332.1 bt332.2 (bt332.2 != A5) a0_0 a0_1 l0_2 bt326.1 bt326.2.1 bt326.2.2) else (laws_FnExactLoneGears.j0 k A6 A5 bt332.1 bt332.2 true a0_0 a0_1 l0_2 bt326.1 bt326.2.1 bt326.2.2))))) = some true := H
  have A8 := Z.m CK
  clear CK
  replace H := Option.bind_eq_some_iff.mp H
  obtain ⟨⟨Ad, Ae, Ac⟩, CL, H⟩ := H
  replace H : ((impl_LoneGears.f k Ad Ae Ac).bind fun bt332 => ((laws_eqIntS.f k bt332.1 A6).bind fun Ao => (if Ao = true then (laws_FnExactLoneGears.j0 k A6 A5 bt332.1 bt332.2 (bt332.2 != A5) a0_0 a0_1 l0_2 Ad Ae Ac) else (laws_FnExactLoneGears.j0 k A6 A5 bt332.1 bt332.2 true a0_0 a0_1 l0_2 Ad Ae Ac)))) = some true := H
  have A9 := Z.m CL
  clear CL
  replace H := Option.bind_eq_some_iff.mp H
  obtain ⟨⟨Aa, Ah⟩, BT, H⟩ := H
  replace H : ((laws_eqIntS.f k Aa A6).bind fun Ao => (if Ao = true then (laws_FnExactLoneGears.j0 k A6 A5 Aa Ah (Ah != A5) a0_0 a0_1 l0_2 Ad Ae Ac) else (laws_FnExactLoneGears.j0 k A6 A5 Aa Ah true a0_0 a0_1 l0_2 Ad Ae Ac))) = some true := H
  have CU := Z.m BT
  clear BT
  have BN := Z.m H
  clear H
  go_enter Try.func11, Try.ntmps11
  go_upto_region 8 with (first | ((with_reducible refine gq (N := 1) rfl ?_); refine be (N := 1) (cs := #[.int .i64 a0_0, .int .i64 a0_1, .slice A0_2 l0_2.length c0_2]) (t := 24) ?_; intro As hg Di hbox hb; have A0 := Z.m (hbox); have AN := gW (w := w) HB hg; have AM := AN; replace HB := bB HB hb; clear hb hbox hg; have AU := bc0 A0; have AV := bc1 A0; have AW := bc2 A0; have Bj := qz A0.o 0; have Bk := qz A0.o 1; have Bl := qz A0.o 2) | ((with_reducible refine gc (f := 15) rfl ?_); refine gA (some 16) _ #[.agg #[.int .i64 a0_0, .int .i64 a0_1, .slice A0_2 l0_2.length c0_2], .int .i64 1048576] ?_ Try.func15; (with_reducible refine (laws_szBoard.calls a0_0 a0_1 _ _ l0_2 1048576 AK _ ?side1 ?side2 A2.o).mono ?_); (case side1 => repeat (first | exact (Kd.C_below AA.o HB.o) | (with_reducible refine Kd.C_alloc ?_ _) | (with_reducible refine Kd.C_drewN ?_ _) | (with_reducible refine Kd.C_drew ?_))); (case side2 => exact Az.o); rintro e Dj ⟨rfl, hb⟩; refine ⟨_, rfl, ?_⟩; replace A0 := kB A0 hb; replace HB := bB HB hb; (try clear hb); (try clear BR); (try clear hk); (try clear hi); have AX := bc0 A0; have AY := bc1 A0; have AZ := bc2 A0; have Bm := qz A0.o 0; have Bn := qz A0.o 1; have Bo := qz A0.o 2) | ((with_reducible refine gc (f := 17) rfl ?_); refine gA (some 21) _ #[.agg #[.int .i64 a0_0, .int .i64 a0_1, .slice A0_2 l0_2.length c0_2]] ?_ Try.func17; (with_reducible refine (laws_toBoard.calls k a0_0 a0_1 _ _ l0_2 BB BC AP _ ?side1 ?side2 A7.o).mono ?_); (case side1 => repeat (first | exact (Kd.C_below AA.o HB.o) | (with_reducible refine Kd.C_alloc ?_ _) | (with_reducible refine Kd.C_drewN ?_ _) | (with_reducible refine Kd.C_drew ?_))); (case side2 => exact Az.o); rintro e Dk ⟨Dd, rfl, At, hb⟩; refine ⟨_, rfl, ?_⟩; have Aj := Z.m (Kd.R_lower At (below_size (vB HB))); replace A0 := kB A0 hb; replace HB := bB HB hb; (try clear hb); (try clear BR); (try clear hk); (try clear hi); (try clear At); obtain ⟨C5, Ca, Cs⟩ := Kd.R_slice Aj.o; subst Cs) | ((with_reducible refine gc (f := 39) rfl ?_); refine gA (some 22) _ #[.agg #[.int .i64 BB, .int .i64 BC, .slice C5 AP.length Ca]] ?_ Try.func39; (with_reducible refine (spec_LoneGears.calls k BB BC _ _ AP A6 A5 _ ?side1 ?side2 A8.o).mono ?_); (case side1 => repeat (first | exact (Kd.RrZ Aj.o).2.2 | (with_reducible refine Kd.C_alloc ?_ _) | (with_reducible refine Kd.C_drewN ?_ _) | (with_reducible refine Kd.C_drew ?_))); (case side2 => exact (Kd.RrZ Aj.o).2.1); rintro e Dl ⟨AS, rfl, At, hb⟩; refine ⟨_, rfl, ?_⟩; have Ak := Z.m (Kd.R_lower At (below_size (vB HB))); replace Aj := Z.m (Kd.Rb (vR Aj) hb); replace A0 := kB A0 hb; replace HB := bB HB hb; (try clear hb); (try clear BR); (try clear hk); (try clear hi); (try clear At); have B0 := bc0 A0; have B2 := bc1 A0; have B7 := bc2 A0; have Bp := qz A0.o 0; have Bq := qz A0.o 1; have Br := qz A0.o 2) | ((with_reducible refine gc (f := 17) rfl ?_); refine gA (some 26) _ #[.agg #[.int .i64 a0_0, .int .i64 a0_1, .slice A0_2 l0_2.length c0_2]] ?_ Try.func17; (with_reducible refine (laws_toBoard.calls k a0_0 a0_1 _ _ l0_2 Ad Ae Ac _ ?side1 ?side2 A9.o).mono ?_); (case side1 => repeat (first | exact (Kd.C_below AA.o HB.o) | (with_reducible refine Kd.C_alloc ?_ _) | (with_reducible refine Kd.C_drewN ?_ _) | (with_reducible refine Kd.C_drew ?_))); (case side2 => exact Az.o); rintro e Dm ⟨De, rfl, At, hb⟩; refine ⟨_, rfl, ?_⟩; have Ar := Z.m (Kd.R_lower (Kd.R_new' At (Kd.R_lt (vR Aj))) (below_size (vB HB))); replace Aj := Z.m (Kd.R_elder' (vR Aj) (Kd.R_base At) hb); replace Ak := Z.m (Kd.Rb (vR Ak) hb); replace A0 := kB A0 hb; replace HB := bB HB hb; (try clear hb); (try clear BR); (try clear hk); (try clear hi); (try clear At)) | ((with_reducible refine gq (N := 6) rfl ?_); refine be (N := 6) (cs := #[.int .i64 0, .int .i64 0, .slice none 0 0]) (t := 30) ?_; intro Ax hg Dn hbox hb; have A3 := Z.m (hbox); have C6 := gW (w := w) HB hg; have BK := C6; have Al := neL A0 hg; have Ap := neG A0 hg; replace Aj := Z.m (Kd.Rb (vR Aj) hb); replace Ak := Z.m (Kd.Rb (vR Ak) hb); replace Ar := Z.m (Kd.Rb (vR Ar) hb); replace A0 := kB A0 hb; replace HB := bB HB hb; clear hb hbox hg; have CO := Ap.o; have CR := Al.o; have Ba := bc0 A3; have Bb := bc1 A3; have Bc := bc2 A3; have Bs := qz A3.o 0; have Bt := qz A3.o 1; have Bu := qz A3.o 2; obtain ⟨An, Am, Ct⟩ := Kd.R_slice Ar.o; subst Ct) | ((with_reducible refine gc (f := 40) rfl ?_); refine gA (some 29) _ #[.agg #[.int .i64 Ad, .int .i64 Ae, .slice An Ac.length Am]] ?_ Try.func40; (with_reducible refine (impl_LoneGears.calls k Ad Ae _ _ Ac Aa Ah _ ?side1 ?side2 CU.o).mono ?_); (case side1 => refine (Kd.RrZ (e := 71) (base := w.heap.size) (ok := fun k_ => (True ∧ some k_ ≠ (.slice C5 AP.length Ca : Value).ownBlock)) (n := Ac.length) (c := Am) ?_).2.2; exact (by refine rK ?_; exact (Kd.Rm (rf (rf (rf (Kd.Ry Ar.o A3.o (by decide))))) (fun _ h_ => h_.1)))); (case side2 => exact (Kd.RrZ Ar.o).2.1); rintro e Do ⟨AT, rfl, At, hb⟩; refine ⟨_, rfl, ?_⟩; have AJ := Z.m (Kd.R_lower (Kd.R_new' At (Kd.R_lt (by refine rK ?_; exact (Kd.Rm (rf (rf (rf (Kd.Ry Ak.o A3.o (by decide))))) (fun _ h_ => h_.1))))) (below_size (vB HB))); replace Aj := Z.m (Kd.Rb (by refine rK ?_; exact (Kd.Rm (rf (rf (rf (Kd.Ry Aj.o A3.o (by decide))))) (fun _ h_ => h_.1))) hb); replace Ak := Z.m (Kd.R_elder' (by refine rK ?_; exact (Kd.Rm (rf (rf (rf (Kd.Ry Ak.o A3.o (by decide))))) (fun _ h_ => h_.1))) (Kd.R_base At) hb); replace Ar := Z.m (Kd.Rb (by refine rK ?_; exact (Kd.Rm (rf (rf (rf (Kd.Ry Ar.o A3.o (by decide))))) (fun _ h_ => h_.1))) hb); replace A0 := Z.m (qb (g := As) (o := .cells #[.int .i64 a0_0, .int .i64 a0_1, .slice A0_2 l0_2.length c0_2] 24 (0, 0)) (by refine bK ?_; (iterate 3 refine qF ?_ Al); exact A0.o) hb); replace A3 := Z.m (qb (g := Ax) (o := .cells #[.int .i64 Ad, .int .i64 Ae, .slice An Ac.length Am] 30 (0, 0)) (by refine bK ?_; apply st3; refine bK ?_; exact A3.o) hb); replace HB := bB HB hb; (try clear hb); (try clear BR); (try clear hk); (try clear hi); (try clear At)))
  (try simp only [Act.put, q1, q2, q3])
  go_cut [40] (fun v40 wc => ∃ (kq : Nat) (AB : Bool), v40 = .bool AB ∧ Z (laws_FnExactLoneGears.j0 kq A6 A5 Aa Ah AB a0_0 a0_1 l0_2 Ad Ae Ac = some true) ∧ Z (kq ≤ k) ∧ Z (Kd.R (Kd.int .i64) 3 wc w.heap.size (fun k_ => some k_ ≠ (AT : Value).ownBlock) AS A6) ∧ Z (Kd.R (Kd.int .i64) 3 wc w.heap.size (fun k_ => some k_ ≠ (AS : Value).ownBlock) AT Aa) ∧ Z (Kd.R k71 71 wc w.heap.size (fun _ => True) (.slice An Ac.length Am) Ac) ∧ Z (wc.heap[As]? = some (.cells #[.int .i64 a0_0, .int .i64 a0_1, (.slice A0_2 l0_2.length c0_2)] 24 (0, 0))) ∧ Z (wc.heap[Ax]? = some (.cells #[.int .i64 Ad, .int .i64 Ae, (.slice An Ac.length Am)] 30 (0, 0))) ∧ Z (Below w.heap.size w wc))
  case first =>
   have H := BN.o
   clear BN
   replace H := Option.bind_eq_some_iff.mp H
   obtain ⟨Ao, BU, H⟩ := H
   replace H : (if Ao = true then (laws_FnExactLoneGears.j0 k A6 A5 Aa Ah (Ah != A5) a0_0 a0_1 l0_2 Ad Ae Ac) else (laws_FnExactLoneGears.j0 k A6 A5 Aa Ah true a0_0 a0_1 l0_2 Ad Ae Ac)) = some true := H
   have CV := Z.m BU
   clear BU
   by_cases c27 : Ao = true
   ·subst c27
    have H1 : (laws_FnExactLoneGears.j0 k A6 A5 Aa Ah (Ah != A5) a0_0 a0_1 l0_2 Ad Ae Ac) = some true := by rw [if_pos rfl] at H; exact H
    clear H
    have H := H1
    clear H1
    have H' := Z.m H
    clear H
    obtain ⟨Ce, Cm, Cu⟩ := Kd.R_slice AJ.o
    subst Cu
    obtain ⟨Cf, Cn, Cv⟩ := Kd.R_slice Ak.o
    subst Cv
    go_wp2_with (first | ((with_reducible refine gc (f := 26) rfl ?_); refine gA (some 34) _ #[.slice Ce Aa.length Cm, .slice Cf A6.length Cn] ?_ Try.func26; (with_reducible refine (laws_eqIntS.calls k _ _ Aa _ _ A6 true _ ?side1 ?side2 ?side3 ?side4 CV.o).mono ?_); (case side1 => repeat (first | exact (Kd.RrZ AJ.o).2.2 | (with_reducible refine Kd.C_alloc ?_ _) | (with_reducible refine Kd.C_drewN ?_ _) | (with_reducible refine Kd.C_drew ?_))); (case side2 => exact (Kd.RrZ AJ.o).2.1); (case side3 => repeat (first | exact (Kd.RrZ Ak.o).2.2 | (with_reducible refine Kd.C_alloc ?_ _) | (with_reducible refine Kd.C_drewN ?_ _) | (with_reducible refine Kd.C_drew ?_))); (case side4 => exact (Kd.RrZ Ak.o).2.1); rintro e w' ⟨rfl, ⟨nd, rfl⟩⟩; refine ⟨_, rfl, ?_⟩))
    go_meet
    case rel => exact ⟨_, ((Ah != A5)), (by first | rfl | (simp; done) | (simp [*]; done)), H', ⟨by first | omega | exact Nat.le_refl _⟩, ⟨by refine rK ?_; exact Kd.Rm Ak.o (fun _ hk => hk.2)⟩, ⟨by refine rK ?_; exact Kd.Rm AJ.o (fun _ hk => hk.2)⟩, ⟨by refine rK ?_; exact Kd.Rm Ar.o (fun _ hk => trivial)⟩, ⟨vK A0⟩, ⟨vK A3⟩, ⟨vB HB⟩⟩
   ·(rw [if_neg c27] at H; exact absurd H (laws_FnExactLoneGears.bad_j0 _ _ _ _ _ _ _ _ _ _ _))
  case rest =>
   clear BN
   (try clear C7)
   (try clear AU); (try clear AV); (try clear AW); (try clear AX); (try clear AY); (try clear AZ); (try clear B0); (try clear B2)
   (try clear B7); (try clear Ba); (try clear Bb); (try clear Bc); (try clear Bj); (try clear Bk); (try clear Bl); (try clear Bm)
   (try clear Bn); (try clear Bo); (try clear Bp); (try clear Bq); (try clear Br); (try clear Bs); (try clear Bt); (try clear Bu)
   obtain ⟨kq, AB, rfl, HA, BQ, Af, Ab, A1, A0, A3, HB⟩ := hcut
   cases kq with
   | zero => exact absurd HA.o (by simp [laws_FnExactLoneGears.j0])
   | succ kj10 =>
    have H := HA.o
    clear HA
    simp only [laws_FnExactLoneGears.j0] at H
    by_cases c32 : AB = true
    ·(rw [if_pos c32] at H; exact absurd H (by decide))
    ·replace c32 := Bool.eq_false_iff.mpr c32
     subst c32
     have H1 : ((laws_toBoard.f kj10 a0_0 a0_1 l0_2).bind fun bt337 => ((laws_eqBoard.f kj10 Ad Ae Ac bt337.1 bt337.2.1 bt337.2.2).bind fun AL => (if AL = true then ((laws_markBoard.f kj10 Ad Ae Ac 1).bind fun bt343 => (if bt343.1 < 0 then (laws_FnExactLoneGears.j1 kj10 A6 A5 Aa true a0_0 a0_1 l0_2) else ((laws_eqIntS.f kj10 Aa A6).bind fun Au => (if Au = true then (laws_FnExactLoneGears.j1 kj10 A6 A5 Aa (Ah != A5) a0_0 a0_1 l0_2) else (laws_FnExactLoneGears.j1 kj10 A6 A5 Aa true a0_0 a0_1 l0_2))))) else (some false)))) = some true := by rw [if_neg (show ¬ (false = true) by decide)] at H; exact H
     clear H
     have H := H1
     clear H1
     replace H := Option.bind_eq_some_iff.mp H
     obtain ⟨⟨BD, BE, BF⟩, BV, H⟩ := H
     replace H : ((laws_eqBoard.f kj10 Ad Ae Ac BD BE BF).bind fun AL => (if AL = true then ((laws_markBoard.f kj10 Ad Ae Ac 1).bind fun bt343 => (if bt343.1 < 0 then (laws_FnExactLoneGears.j1 kj10 A6 A5 Aa true a0_0 a0_1 l0_2) else ((laws_eqIntS.f kj10 Aa A6).bind fun Au => (if Au = true then (laws_FnExactLoneGears.j1 kj10 A6 A5 Aa (Ah != A5) a0_0 a0_1 l0_2) else (laws_FnExactLoneGears.j1 kj10 A6 A5 Aa true a0_0 a0_1 l0_2))))) else (some false))) = some true := H
     have CW := Z.m BV
     clear BV
     replace H := Option.bind_eq_some_iff.mp H
     obtain ⟨AL, BW, H⟩ := H
     replace H : (if AL = true then ((laws_markBoard.f kj10 Ad Ae Ac 1).bind fun bt343 => (if bt343.1 < 0 then (laws_FnExactLoneGears.j1 kj10 A6 A5 Aa true a0_0 a0_1 l0_2) else ((laws_eqIntS.f kj10 Aa A6).bind fun Au => (if Au = true then (laws_FnExactLoneGears.j1 kj10 A6 A5 Aa (Ah != A5) a0_0 a0_1 l0_2) else (laws_FnExactLoneGears.j1 kj10 A6 A5 Aa true a0_0 a0_1 l0_2))))) else (some false)) = some true := H
     have CX := Z.m BW
     clear BW
     by_cases c35 : AL = true
     ·subst c35
      have H1 : ((laws_markBoard.f kj10 Ad Ae Ac 1).bind fun bt343 => (if bt343.1 < 0 then (laws_FnExactLoneGears.j1 kj10 A6 A5 Aa true a0_0 a0_1 l0_2) else ((laws_eqIntS.f kj10 Aa A6).bind fun Au => (if Au = true then (laws_FnExactLoneGears.j1 kj10 A6 A5 Aa (Ah != A5) a0_0 a0_1 l0_2) else (laws_FnExactLoneGears.j1 kj10 A6 A5 Aa true a0_0 a0_1 l0_2))))) = some true := by rw [if_pos rfl] at H; exact H
      clear H
      have H := H1
      clear H1
      replace H := Option.bind_eq_some_iff.mp H
      obtain ⟨⟨BS, AQ⟩, BX, H⟩ := H
      replace H : (if BS < 0 then (laws_FnExactLoneGears.j1 kj10 A6 A5 Aa true a0_0 a0_1 l0_2) else ((laws_eqIntS.f kj10 Aa A6).bind fun Au => (if Au = true then (laws_FnExactLoneGears.j1 kj10 A6 A5 Aa (Ah != A5) a0_0 a0_1 l0_2) else (laws_FnExactLoneGears.j1 kj10 A6 A5 Aa true a0_0 a0_1 l0_2)))) = some true := H
      have CY := Z.m BX
      clear BX
      have BO := Z.m H
      clear H
      try go_wp2
      replace Af := Z.m (Kd.R_drew Af.o)
      replace Ab := Z.m (Kd.R_drew Ab.o)
      replace A1 := Z.m (Kd.R_drew A1.o)
      replace A0 := Z.m (blk_drew A0.o)
      replace A3 := Z.m (blk_drew A3.o)
      replace HB := Z.m (qd HB.o)
      refine start_ (n := 5) (S := fun w' => w'.cell? ⟨Ax, 0, none⟩ = some (.int .i64 Ad) ∧ w'.cell? ⟨Ax, 1, none⟩ = some (.int .i64 Ae) ∧ w'.cell? ⟨Ax, 2, none⟩ = some (.slice An Ac.length Am) ∧ w'.cell? ⟨As, 0, none⟩ = some (.int .i64 a0_0) ∧ w'.cell? ⟨As, 1, none⟩ = some (.int .i64 a0_1) ∧ w'.cell? ⟨As, 2, none⟩ = some (.slice A0_2 l0_2.length c0_2)) (ds := []) #[false, false, false, false, false] (by kernel_rfl) rfl rfl ⟨(ql A3.o 0).trans rfl, (ql A3.o 1).trans rfl, (ql A3.o 2).trans rfl, (ql A0.o 0).trans rfl, (ql A0.o 1).trans rfl, (ql A0.o 2).trans rfl⟩ (fun hHeld => ?_)
      generalize wc.drew = Dp at Af Ab A1 A0 A3 HB hHeld ⊢
      refine take_ (i := 0) (N := some 41) (v := ?_) (a' := ?_) #[true, false, false, false, false] rfl rfl (by kernel_rfl) (fun _ _ _ h => h) (Or.inl ⟨by rfl, ?_⟩) hHeld ?_ ?_
      rotate_left
      ·rintro w' ⟨s0, s1, s2, s3, s4, s5⟩
       go_simp
       with_reducible rfl
      rotate_left
      ·simp only [Act.put, q1, q2, q3, i64_w, i32_w]
       rfl
      refine take_ (i := 1) (N := some 42) (v := ?_) (a' := ?_) #[true, true, false, false, false] rfl rfl (by kernel_rfl) (fun _ _ _ h => h) (Or.inl ⟨by rfl, ?_⟩) hHeld ?_ ?_
      rotate_left
      ·rintro w' ⟨s0, s1, s2, s3, s4, s5⟩
       go_simp
       with_reducible rfl
      rotate_left
      ·simp only [Act.put, q1, q2, q3, i64_w, i32_w]
       rfl
      refine one_ (i := 2) (N := some 43) #[true, true, true, false, false] rfl rfl (by kernel_rfl) (by decide) (fun K hK => ?_)
      refine goes_ Try.func17 (by kernel_rfl) rfl #[.agg #[.int .i64 a0_0, .int .i64 a0_1, .slice A0_2 l0_2.length c0_2]] (by rfl) rfl rfl (by (try simp only [List.map_toArray, List.map_cons, List.map_nil]); first | done | rfl | (simp only [List.length_drop, List.length_take]; rfl)) ?_
      with_reducible refine (laws_toBoard.calls kj10 a0_0 a0_1 _ _ l0_2 BD BE BF _ ?side1 ?side2 CW.o).mono ?_
      (case side1 => repeat (first | exact (Kd.C_below AA.o HB.o) | (with_reducible refine Kd.C_alloc ?_ _) | (with_reducible refine Kd.C_drewN ?_ _) | (with_reducible refine Kd.C_drew ?_)))
      (case side2 => exact Az.o)
      rintro e Dq ⟨Df, rfl, At, hb⟩
      refine ⟨_, rfl, ?_⟩
      have Aw := Z.m (Kd.R_lower (Kd.R_new' At (Kd.R_lt (vR A1))) (below_size (vB HB)))
      replace Af := Z.m (Kd.Rb (vR Af) hb)
      replace Ab := Z.m (Kd.Rb (vR Ab) hb)
      replace A1 := Z.m (Kd.R_elder' (vR A1) (Kd.R_base At) hb)
      replace A0 := kB A0 hb
      replace A3 := kB A3 hb
      replace HB := bB HB hb
      (try clear hb); (try clear At)
      obtain ⟨Cg, Co, Cb⟩ := Kd.R_slice Aw.o
      (first | subst Cb | (injection Cb with f1_ f2_ f3_; have f4_ := f1_.symm; have f5_ := f3_.symm; clear f1_ f2_ f3_; subst f4_; subst f5_))
      refine hK.out _ _ ⟨(ql A3.o 0).trans rfl, (ql A3.o 1).trans rfl, (ql A3.o 2).trans rfl, (ql A0.o 0).trans rfl, (ql A0.o 1).trans rfl, (ql A0.o 2).trans rfl⟩ (fun hHeld => ?_)
      clear hK K
      refine norm_ (a' := ?_) ?_ ?_
      rotate_left
      ·show Act.put _ (some 43) _ = _
       simp only [Act.put, q1, q2, q3, i64_w, i32_w]
       rfl
      refine one_ (i := 3) (N := some 44) #[true, true, true, true, false] rfl rfl (by kernel_rfl) (by decide) (fun K hK => ?_)
      refine goes_ Try.func19 (by kernel_rfl) rfl #[.agg #[.int .i64 Ad, .int .i64 Ae, .slice An Ac.length Am], .agg #[.int .i64 BD, .int .i64 BE, .slice Cg BF.length Co]] (by rfl) rfl rfl (by (try simp only [List.map_toArray, List.map_cons, List.map_nil]); first | done | rfl | (simp only [List.length_drop, List.length_take]; rfl)) ?_
      with_reducible refine (laws_eqBoard.calls kj10 Ad Ae _ _ Ac BD BE _ _ BF true _ ?side1 ?side2 ?side3 ?side4 CX.o).mono ?_
      (case side1 => repeat (first | exact (Kd.RrZ A1.o).2.2 | (with_reducible refine Kd.C_alloc ?_ _) | (with_reducible refine Kd.C_drewN ?_ _) | (with_reducible refine Kd.C_drew ?_)))
      (case side2 => exact (Kd.RrZ A1.o).2.1)
      (case side3 => repeat (first | exact (Kd.RrZ Aw.o).2.2 | (with_reducible refine Kd.C_alloc ?_ _) | (with_reducible refine Kd.C_drewN ?_ _) | (with_reducible refine Kd.C_drew ?_)))
      (case side4 => exact (Kd.RrZ Aw.o).2.1)
      rintro e Dr ⟨rfl, hb⟩
      refine ⟨_, rfl, ?_⟩
      replace Af := Z.m (Kd.Rb (vR Af) hb)
      replace Ab := Z.m (Kd.Rb (vR Ab) hb)
      replace A1 := Z.m (Kd.Rb (vR A1) hb)
      replace Aw := Z.m (Kd.Rb (vR Aw) hb)
      replace A0 := kB A0 hb
      replace A3 := kB A3 hb
      replace HB := bB HB hb
      (try clear hb)
      refine hK.out _ _ ⟨(ql A3.o 0).trans rfl, (ql A3.o 1).trans rfl, (ql A3.o 2).trans rfl, (ql A0.o 0).trans rfl, (ql A0.o 1).trans rfl, (ql A0.o 2).trans rfl⟩ (fun hHeld => ?_)
      clear hK K
      refine norm_ (a' := ?_) ?_ ?_
      rotate_left
      ·show Act.put _ (some 44) _ = _
       simp only [Act.put, q1, q2, q3, i64_w, i32_w]
       rfl
      refine pure_ (i := 4) (N := some 45) (v := ?_) (a' := ?_) #[true, true, true, true, true] rfl rfl (by kernel_rfl) (fun _ _ _ h => h) (Or.inl ⟨by rfl, ?_⟩) ?_ ?_
      rotate_left
      ·intro w'
       go_simp
       with_reducible rfl
      rotate_left
      ·simp only [Act.put, q1, q2, q3, i64_w, i32_w]
       rfl
      refine done_ (by kernel_rfl) ?_
      have CP := Ap.o
      have CS := Al.o
      have Bd := bc0 A3
      have Be := bc1 A3
      have Bf := bc2 A3
      have Bv := qz A3.o 0
      have Bw := qz A3.o 1
      have Bx := qz A3.o 2
      go_upto_region 14 with (first | ((with_reducible refine gc (f := 27) rfl ?_); refine gA (some 48) _ #[.agg #[.int .i64 Ad, .int .i64 Ae, .slice An Ac.length Am], .int .i64 1] ?_ Try.func27; (with_reducible refine (laws_markBoard.calls kj10 Ad Ae (fun k_ => some k_ = (.slice An Ac.length Am : Value).ownBlock) (.slice An Ac.length Am) Ac 1 BS AQ w _ ?side1 ?side2 CY.o).mono ?_); (case side1 => repeat (first | (with_reducible first | exact HB.o | apply qa | apply qn | apply qd | refine qx ?_ AM.o | refine qx ?_ BK.o) | exact HB.o)); (case side2 => exact Kd.Rg rfl A1.o); rintro e Ds ⟨rfl, Cd, hb, hkp⟩; refine ⟨_, rfl, ?_⟩; replace Af := Z.m (Kd.Rm (ok' := fun k_ => some k_ ≠ (AT : Value).ownBlock) (Kd.Rk ((Kd.Ra Af.o (Kd.Rt A1.o) (by decide))) hkp (fun k_ hk_ hs_ => (hk_.2) hs_)) (fun k_ hk_ => hk_.1.1)); replace Ab := Z.m (Kd.Rm (ok' := fun k_ => some k_ ≠ (AS : Value).ownBlock) (Kd.Rk ((Kd.Ra Ab.o (Kd.Rt A1.o) (by decide))) hkp (fun k_ hk_ hs_ => (hk_.2) hs_)) (fun k_ hk_ => hk_.1.1)); replace A0 := Z.m (qk (vK A0) hkp (fun hs_ => (fun e_ => (Kd.R_ne A1.o A0.o (by decide)) e_) hs_)); replace A3 := Z.m (qk (vK A3) hkp (fun hs_ => (fun e_ => (Kd.R_ne A1.o A3.o (by decide)) e_) hs_)); replace A1 := Z.m (Kd.Re rfl Cd (fun k_ e_ => A1.o.1 k_ e_)); replace Aw := Z.m (Kd.Rm (ok' := fun k_ => some k_ ≠ (.slice An Ac.length Am : Value).ownBlock) (Kd.Rk (Aw.o) hkp (fun k_ hk_ hs_ => (hk_.2) hs_)) (fun k_ hk_ => hk_.1.2)); replace HB := Z.m (hb); (try clear hb); (try clear hkp); (try clear Cd)))
      (try simp only [Act.put, q1, q2, q3])
      go_cut [61] (fun v61 wc => ∃ (kq : Nat) (AC : Bool), v61 = .bool AC ∧ Z (laws_FnExactLoneGears.j1 kq A6 A5 Aa AC a0_0 a0_1 l0_2 = some true) ∧ Z (kq ≤ kj10) ∧ Z (Kd.R (Kd.int .i64) 3 wc w.heap.size (fun k_ => some k_ ≠ (AT : Value).ownBlock) AS A6) ∧ Z (Kd.R (Kd.int .i64) 3 wc w.heap.size (fun k_ => some k_ ≠ (AS : Value).ownBlock) AT Aa) ∧ Z (Kd.R k71 71 wc w.heap.size (fun _ => True) (.slice An Ac.length Am) AQ) ∧ Z (wc.heap[As]? = some (.cells #[.int .i64 a0_0, .int .i64 a0_1, (.slice A0_2 l0_2.length c0_2)] 24 (0, 0))) ∧ Z (wc.heap[Ax]? = some (.cells #[.int .i64 Ad, .int .i64 Ae, (.slice An Ac.length Am)] 30 (0, 0))) ∧ Z (Below w.heap.size w wc))
      case first =>
       have H := BO.o
       clear BO
       by_cases c45 : BS < 0
       ·rw [if_pos c45] at H
        have AF := decide_eq_true c45
        clear c45
        (first | rw [AF] | (simp only [i64_w, i32_w]; rw [AF]) | skip)
        have H' := Z.m H
        clear H
        go_wp2
        go_meet
        case rel => exact ⟨_, (true), (by first | rfl | (simp; done) | (simp [*]; done)), H', ⟨by have := BQ.o; first | omega | exact Nat.le_refl _⟩, ⟨vR Af⟩, ⟨vR Ab⟩, ⟨by refine rK ?_; exact Kd.Rm A1.o (fun _ hk => trivial)⟩, ⟨vK A0⟩, ⟨vK A3⟩, ⟨vB HB⟩⟩
       ·rw [if_neg c45] at H
        have AF := decide_eq_false c45
        clear c45
        (first | rw [AF] | (simp only [i64_w, i32_w]; rw [AF]) | skip)
        replace H := Option.bind_eq_some_iff.mp H
        obtain ⟨Au, BY, H⟩ := H
        replace H : (if Au = true then (laws_FnExactLoneGears.j1 kj10 A6 A5 Aa (Ah != A5) a0_0 a0_1 l0_2) else (laws_FnExactLoneGears.j1 kj10 A6 A5 Aa true a0_0 a0_1 l0_2)) = some true := H
        have CZ := Z.m BY
        clear BY
        by_cases c47 : Au = true
        ·subst c47
         have H1 : (laws_FnExactLoneGears.j1 kj10 A6 A5 Aa (Ah != A5) a0_0 a0_1 l0_2) = some true := by rw [if_pos rfl] at H; exact H
         clear H
         have H := H1
         clear H1
         have H' := Z.m H
         clear H
         obtain ⟨D6, D9, Cw⟩ := Kd.R_slice Ab.o
         subst Cw
         obtain ⟨D7, Da, Cx⟩ := Kd.R_slice Af.o
         subst Cx
         go_wp2_with (first | (go_at_call 26; (with_reducible refine (laws_eqIntS.calls kj10 _ _ Aa _ _ A6 true _ ?side1 ?side2 ?side3 ?side4 CZ.o).mono ?_); (case side1 => repeat (first | exact (Kd.RrZ Ab.o).2.2 | (with_reducible refine Kd.C_alloc ?_ _) | (with_reducible refine Kd.C_drewN ?_ _) | (with_reducible refine Kd.C_drew ?_))); (case side2 => exact (Kd.RrZ Ab.o).2.1); (case side3 => repeat (first | exact (Kd.RrZ Af.o).2.2 | (with_reducible refine Kd.C_alloc ?_ _) | (with_reducible refine Kd.C_drewN ?_ _) | (with_reducible refine Kd.C_drew ?_))); (case side4 => exact (Kd.RrZ Af.o).2.1); rintro e w' ⟨rfl, ⟨nd, rfl⟩⟩))
         go_meet
         case rel => exact ⟨_, ((Ah != A5)), (by first | rfl | (simp; done) | (simp [*]; done)), H', ⟨by have := BQ.o; first | omega | exact Nat.le_refl _⟩, ⟨vR Af⟩, ⟨vR Ab⟩, ⟨by refine rK ?_; exact Kd.Rm A1.o (fun _ hk => trivial)⟩, ⟨vK A0⟩, ⟨vK A3⟩, ⟨vB HB⟩⟩
        ·(rw [if_neg c47] at H; exact absurd H (laws_FnExactLoneGears.bad_j1 _ _ _ _ _ _ _))
      case rest =>
       clear BO
       (try clear c32); (try clear c35)
       (try clear Bd); (try clear Be); (try clear Bf); (try clear Bv); (try clear Bw); (try clear Bx)
       obtain ⟨kq, AC, rfl, HA, Cl, Af, Ab, A1, A0, A3, HB⟩ := hcut
       have A4 := (Kd.RrZ A1.o).1
       rw [A4] at A1
       (try simp only [A4])
       (try simp only [A4] at A0)
       (try simp only [A4] at A3)
       (try simp only [A4] at Af)
       (try simp only [A4] at Ab)
       cases kq with
       | zero => exact absurd HA.o (by simp [laws_FnExactLoneGears.j1])
       | succ kj36 =>
        have H := HA.o
        clear HA
        simp only [laws_FnExactLoneGears.j1] at H
        by_cases c52 : AC = true
        ·(rw [if_pos c52] at H; exact absurd H (by decide))
        ·replace c52 := Bool.eq_false_iff.mpr c52
         subst c52
         have H1 : ((laws_markIntS.f kj36 Aa 1).bind fun bt346 => ((laws_heldIntS.f kj36 bt346.2 1).bind fun Ay => (if Ay < 0 then (some false) else (if Ay = bt346.1 then ((laws_toBoard.f kj36 a0_0 a0_1 l0_2).bind fun bt349 => ((impl_LoneGears.f kj36 bt349.1 bt349.2.1 bt349.2.2).bind fun bt354 => ((laws_eqIntS.f kj36 bt354.1 A6).bind fun Av => (if Av = true then (laws_FnExactLoneGears.j2 kj36 bt346.2 bt346.1 (bt354.2 != A5)) else (laws_FnExactLoneGears.j2 kj36 bt346.2 bt346.1 true))))) else (some false))))) = some true := by rw [if_neg (show ¬ (false = true) by decide)] at H; exact H
         clear H
         have H := H1
         clear H1
         replace H := Option.bind_eq_some_iff.mp H
         obtain ⟨⟨Ai, Ag⟩, BZ, H⟩ := H
         replace H : ((laws_heldIntS.f kj36 Ag 1).bind fun Ay => (if Ay < 0 then (some false) else (if Ay = Ai then ((laws_toBoard.f kj36 a0_0 a0_1 l0_2).bind fun bt349 => ((impl_LoneGears.f kj36 bt349.1 bt349.2.1 bt349.2.2).bind fun bt354 => ((laws_eqIntS.f kj36 bt354.1 A6).bind fun Av => (if Av = true then (laws_FnExactLoneGears.j2 kj36 Ag Ai (bt354.2 != A5)) else (laws_FnExactLoneGears.j2 kj36 Ag Ai true))))) else (some false)))) = some true := H
         have D0 := Z.m BZ
         clear BZ
         replace H := Option.bind_eq_some_iff.mp H
         obtain ⟨Ay, C0, H⟩ := H
         replace H : (if Ay < 0 then (some false) else (if Ay = Ai then ((laws_toBoard.f kj36 a0_0 a0_1 l0_2).bind fun bt349 => ((impl_LoneGears.f kj36 bt349.1 bt349.2.1 bt349.2.2).bind fun bt354 => ((laws_eqIntS.f kj36 bt354.1 A6).bind fun Av => (if Av = true then (laws_FnExactLoneGears.j2 kj36 Ag Ai (bt354.2 != A5)) else (laws_FnExactLoneGears.j2 kj36 Ag Ai true))))) else (some false))) = some true := H
         have D1 := Z.m C0
         clear C0
         by_cases c55 : Ay < 0
         ·(rw [if_pos c55] at H; exact absurd H (by decide))
         ·rw [if_neg c55] at H
          have BL := decide_eq_false c55
          (try simp only [A4] at BL)
          clear c55
          by_cases c58 : Ay = Ai
          ·rw [if_pos c58] at H
           have C8 := beq_iff_eq.mpr c58
           have C9 := bne_eq_false_iff_eq.mpr c58
           clear c58
           replace H := Option.bind_eq_some_iff.mp H
           obtain ⟨⟨BG, BH, BI⟩, C1, H⟩ := H
           replace H : ((impl_LoneGears.f kj36 BG BH BI).bind fun bt354 => ((laws_eqIntS.f kj36 bt354.1 A6).bind fun Av => (if Av = true then (laws_FnExactLoneGears.j2 kj36 Ag Ai (bt354.2 != A5)) else (laws_FnExactLoneGears.j2 kj36 Ag Ai true)))) = some true := H
           have D2 := Z.m C1
           clear C1
           replace H := Option.bind_eq_some_iff.mp H
           obtain ⟨⟨BJ, AR⟩, C2, H⟩ := H
           replace H : ((laws_eqIntS.f kj36 BJ A6).bind fun Av => (if Av = true then (laws_FnExactLoneGears.j2 kj36 Ag Ai (AR != A5)) else (laws_FnExactLoneGears.j2 kj36 Ag Ai true))) = some true := H
           have D3 := Z.m C2
           clear C2
           have BP := Z.m H
           clear H
           obtain ⟨AH, AI, Cy⟩ := Kd.R_slice Ab.o
           subst Cy
           go_upto_region 25 with (first | ((with_reducible refine gc (f := 28) rfl ?_); refine gA (some 64) _ #[.slice AH Aa.length AI, .int .i64 1] ?_ Try.func28; (with_reducible refine (laws_markIntS.calls kj36 (fun k_ => some k_ = (.slice AH Aa.length AI : Value).ownBlock) (.slice AH Aa.length AI) Aa 1 Ai Ag w _ ?side1 ?side2 D0.o).mono ?_); (case side1 => repeat (first | (with_reducible first | exact HB.o | apply qa | apply qn | apply qd | refine qx ?_ AM.o | refine qx ?_ BK.o) | exact HB.o)); (case side2 => exact Kd.Rg rfl Ab.o); rintro e Dt ⟨rfl, Cd, hb, hkp⟩; refine ⟨_, rfl, ?_⟩; replace Af := Z.m (Kd.Rm (ok' := fun k_ => some k_ ≠ (.slice AH Aa.length AI : Value).ownBlock) (Kd.Rk (Af.o) hkp (fun k_ hk_ hs_ => (hk_) hs_)) (fun k_ hk_ => hk_.1)); replace A1 := Z.m (Kd.Rm (ok' := fun k_ => True) (Kd.Rk ((Kd.Ra A1.o (Kd.Rt Ab.o) (by decide))) hkp (fun k_ hk_ hs_ => (hk_.2) hs_)) (fun k_ hk_ => trivial)); replace A0 := Z.m (qk (vK A0) hkp (fun hs_ => (fun e_ => (Kd.R_ne Ab.o A0.o (by decide)) e_) hs_)); replace A3 := Z.m (qk (vK A3) hkp (fun hs_ => (fun e_ => (Kd.R_ne Ab.o A3.o (by decide)) e_) hs_)); replace Ab := Z.m (Kd.Re rfl Cd (fun k_ e_ => Ab.o.1 k_ e_)); replace HB := Z.m (hb); (try clear hb); (try clear hkp); (try clear Cd)) | ((with_reducible refine gc (f := 29) rfl ?_); refine goesL_ (some 67) rfl rfl Try.func29 (by kernel_rfl) rfl #[.slice AH Ag.length AI, .int .i64 1] rfl (by (try simp only [List.map_toArray, List.map_cons, List.map_nil]); first | done | (rw [show Ag.length = Aa.length from (Kd.RrZ Ab.o).1.symm] <;> rfl) | rfl | (simp only [List.length_drop, List.length_take]; rfl)) ?_; (with_reducible refine (laws_heldIntS.calls kj36 _ _ Ag 1 Ay _ ?side1 ?side2 D1.o).mono ?_); (case side1 => repeat (first | exact (Kd.RrZ Ab.o).2.2 | (with_reducible refine Kd.C_alloc ?_ _) | (with_reducible refine Kd.C_drewN ?_ _) | (with_reducible refine Kd.C_drew ?_))); (case side2 => rw [show Ag.length = Aa.length from (Kd.RrZ Ab.o).1.symm]; exact (Kd.RrZ Ab.o).2.1); rintro e w' ⟨rfl, ⟨nd, rfl⟩⟩; refine ⟨_, rfl, ?_⟩; have CQ := Al.o; have CT := Ap.o; have Bg := bc0 A0; have Bh := bc1 A0; have Bi := bc2 A0; have By := qz A0.o 0; have Bz := qz A0.o 1; have BA := qz A0.o 2) | ((with_reducible refine gc (f := 17) rfl ?_); refine gA (some 75) _ #[.agg #[.int .i64 a0_0, .int .i64 a0_1, .slice A0_2 l0_2.length c0_2]] ?_ Try.func17; (with_reducible refine (laws_toBoard.calls kj36 a0_0 a0_1 _ _ l0_2 BG BH BI _ ?side1 ?side2 D2.o).mono ?_); (case side1 => repeat (first | exact (Kd.C_below AA.o (vB HB)) | (with_reducible refine Kd.C_alloc ?_ _) | (with_reducible refine Kd.C_drewN ?_ _) | (with_reducible refine Kd.C_drew ?_))); (case side2 => exact Az.o); rintro e Du ⟨Dg, rfl, At, hb⟩; refine ⟨_, rfl, ?_⟩; have AE := Z.m (Kd.R_lower (Kd.R_new' At (Kd.R_lt (vR A1))) (below_size (vB HB))); replace Af := Z.m (Kd.Rb (vR Af) hb); replace Ab := Z.m (Kd.Rb (vR Ab) hb); replace A1 := Z.m (Kd.R_elder' (vR A1) (Kd.R_base At) hb); replace A0 := kB A0 hb; replace A3 := kB A3 hb; replace HB := bB HB hb; (try clear hb); (try clear BR); (try clear hk); (try clear hi); (try clear At); obtain ⟨Ch, Cp, Cz⟩ := Kd.R_slice AE.o; subst Cz) | ((with_reducible refine gc (f := 40) rfl ?_); refine gA (some 76) _ #[.agg #[.int .i64 BG, .int .i64 BH, .slice Ch BI.length Cp]] ?_ Try.func40; (with_reducible refine (impl_LoneGears.calls kj36 BG BH _ _ BI BJ AR _ ?side1 ?side2 D3.o).mono ?_); (case side1 => repeat (first | exact (Kd.RrZ AE.o).2.2 | (with_reducible refine Kd.C_alloc ?_ _) | (with_reducible refine Kd.C_drewN ?_ _) | (with_reducible refine Kd.C_drew ?_))); (case side2 => exact (Kd.RrZ AE.o).2.1); rintro e Dv ⟨Dh, rfl, At, hb⟩; refine ⟨_, rfl, ?_⟩; have AO := Z.m (Kd.R_lower (Kd.R_new' (Kd.R_new' At (Kd.R_lt (vR Af))) (Kd.R_lt (vR Ab))) (below_size (vB HB))); replace Af := Z.m (Kd.R_elder' (vR Af) (Kd.R_base At) hb); replace Ab := Z.m (Kd.R_elder' (vR Ab) (Kd.R_base At) hb); replace A1 := Z.m (Kd.Rb (vR A1) hb); replace AE := Z.m (Kd.Rb (vR AE) hb); replace A0 := kB A0 hb; replace A3 := kB A3 hb; replace HB := bB HB hb; (try clear hb); (try clear BR); (try clear hk); (try clear hi); (try clear At)))
           (try simp only [Act.put, q1, q2, q3])
           go_cut [87] (fun v87 wc => ∃ (kq : Nat) (AD : Bool), v87 = .bool AD ∧ Z (laws_FnExactLoneGears.j2 kq Ag Ai AD = some true) ∧ Z (kq ≤ kj36) ∧ Z (Kd.R (Kd.int .i64) 3 wc w.heap.size (fun _ => True) (.slice AH Aa.length AI) Ag) ∧ Z (Kd.R k71 71 wc w.heap.size (fun _ => True) (.slice An AQ.length Am) AQ) ∧ Z (wc.heap[As]? = some (.cells #[.int .i64 a0_0, .int .i64 a0_1, (.slice A0_2 l0_2.length c0_2)] 24 (0, 0))) ∧ Z (wc.heap[Ax]? = some (.cells #[.int .i64 Ad, .int .i64 Ae, (.slice An AQ.length Am)] 30 (0, 0))) ∧ Z (Below w.heap.size w wc))
           case first =>
            have H := BP.o
            clear BP
            replace H := Option.bind_eq_some_iff.mp H
            obtain ⟨Av, C3, H⟩ := H
            replace H : (if Av = true then (laws_FnExactLoneGears.j2 kj36 Ag Ai (AR != A5)) else (laws_FnExactLoneGears.j2 kj36 Ag Ai true)) = some true := H
            have D4 := Z.m C3
            clear C3
            by_cases c70 : Av = true
            ·subst c70
             have H1 : (laws_FnExactLoneGears.j2 kj36 Ag Ai (AR != A5)) = some true := by rw [if_pos rfl] at H; exact H
             clear H
             have H := H1
             clear H1
             have H' := Z.m H
             clear H
             obtain ⟨Ci, Cq, CA⟩ := Kd.R_slice AO.o
             subst CA
             obtain ⟨Cj, Cr, CB⟩ := Kd.R_slice Af.o
             subst CB
             go_wp2_with (first | ((with_reducible refine gc (f := 26) rfl ?_); refine gA (some 81) _ #[.slice Ci BJ.length Cq, .slice Cj A6.length Cr] ?_ Try.func26; (with_reducible refine (laws_eqIntS.calls kj36 _ _ BJ _ _ A6 true _ ?side1 ?side2 ?side3 ?side4 D4.o).mono ?_); (case side1 => repeat (first | exact (Kd.RrZ AO.o).2.2 | (with_reducible refine Kd.C_alloc ?_ _) | (with_reducible refine Kd.C_drewN ?_ _) | (with_reducible refine Kd.C_drew ?_))); (case side2 => exact (Kd.RrZ AO.o).2.1); (case side3 => repeat (first | exact (Kd.RrZ Af.o).2.2 | (with_reducible refine Kd.C_alloc ?_ _) | (with_reducible refine Kd.C_drewN ?_ _) | (with_reducible refine Kd.C_drew ?_))); (case side4 => exact (Kd.RrZ Af.o).2.1); rintro e w' ⟨rfl, ⟨nd, rfl⟩⟩; refine ⟨_, rfl, ?_⟩))
             go_meet
             case rel => exact ⟨_, ((AR != A5)), (by first | rfl | (simp; done) | (simp [*]; done)), H', ⟨by have := BQ.o; have := Cl.o; first | omega | exact Nat.le_refl _⟩, ⟨by (try simp only [A4]); refine rK ?_; exact Kd.Rm Ab.o (fun _ hk => trivial)⟩, ⟨by (try simp only [A4]); refine rK ?_; exact Kd.Rm A1.o (fun _ hk => trivial)⟩, ⟨by (try simp only [A4]); refine bK ?_; exact A0.o⟩, ⟨by (try simp only [A4]); refine bK ?_; exact A3.o⟩, ⟨vB HB⟩⟩
            ·(rw [if_neg c70] at H; exact absurd H (laws_FnExactLoneGears.bad_j2 _ _ _))
           case rest =>
            clear BP
            (try clear c52); (try clear BL); (try clear C8); (try clear C9)
            (try clear Bg); (try clear Bh); (try clear Bi); (try clear By); (try clear Bz); (try clear BA)
            obtain ⟨kq, AD, rfl, HA, D8, Ab, A1, A0, A3, HB⟩ := hcut
            have Aq := (Kd.RrZ Ab.o).1
            rw [Aq] at Ab
            (try simp only [Aq])
            (try simp only [Aq] at A0)
            (try simp only [Aq] at A3)
            (try simp only [Aq] at A1)
            cases kq with
            | zero => exact absurd HA.o (by simp [laws_FnExactLoneGears.j2])
            | succ kj60 =>
             have H := HA.o
             clear HA
             simp only [laws_FnExactLoneGears.j2] at H
             by_cases c75 : AD = true
             ·(rw [if_pos c75] at H; exact absurd H (by decide))
             ·replace c75 := Bool.eq_false_iff.mpr c75
              subst c75
              have H1 : ((laws_heldIntS.f kj60 Ag 1).bind fun AG => (if AG < 0 then (some false) else (if AG = Ai then (some true) else (some false)))) = some true := by rw [if_neg (show ¬ (false = true) by decide)] at H; exact H
              clear H
              have H := H1
              clear H1
              replace H := Option.bind_eq_some_iff.mp H
              obtain ⟨AG, C4, H⟩ := H
              replace H : (if AG < 0 then (some false) else (if AG = Ai then (some true) else (some false))) = some true := H
              have D5 := Z.m C4
              clear C4
              by_cases c77 : AG < 0
              ·(rw [if_pos c77] at H; exact absurd H (by decide))
              ·rw [if_neg c77] at H
               have BM := decide_eq_false c77
               (try simp only [A4] at BM)
               (try simp only [Aq] at BM)
               clear c77
               by_cases c78 : AG = Ai
               ·rw [if_pos c78] at H
                have CM := beq_iff_eq.mpr c78
                have CN := bne_eq_false_iff_eq.mpr c78
                clear c78
                clear H
                go_wp2_with (first | ((with_reducible refine gc (f := 29) rfl ?_); refine gA (some 90) _ #[.slice AH Ag.length AI, .int .i64 1] ?_ Try.func29; (with_reducible refine (laws_heldIntS.calls kj60 _ _ Ag 1 AG _ ?side1 ?side2 D5.o).mono ?_); (case side1 => repeat (first | exact (Kd.RrZ Ab.o).2.2 | (with_reducible refine Kd.C_alloc ?_ _) | (with_reducible refine Kd.C_drewN ?_ _) | (with_reducible refine Kd.C_drew ?_))); (case side2 => exact (Kd.RrZ Ab.o).2.1); rintro e w' ⟨rfl, ⟨nd, rfl⟩⟩; refine ⟨_, rfl, ?_⟩))
                go_ret
                exact ⟨by first | rfl | (simp [eN, eS] <;> rfl) | (simp [*, eN, eS] <;> rfl), vB HB⟩
               ·(rw [if_neg c78] at H; exact absurd H (by decide))
          ·(rw [if_neg c58] at H; exact absurd H (by decide))
     ·(rw [if_neg c35] at H; exact absurd H (by decide))

end Go.Proofs.Ytlkiakpipcnijaa.PAll
