/- Of our texts what the law leans on, in the order in which they build: T66, T68. No condition. -/
import Derived.Test.YtcgolmopbnhgeaaZF3
import Derived.Laws.Externs
set_option linter.unusedVariables false
set_option linter.unusedSimpArgs false
namespace Go.Proofs.Ytcgolmopbnhgeaa.Ae
open Go Go.RowKit Go.Proofs.Ytcgolmopbnhgeaa.Dig
@[simp] theorem ev_float (st : St) (k : FloatKind) (n : Nat) : ev st (.const (.float k n)) = .dat (.lit (.float k n)) := rfl
def EF : Enc Nat := ⟨fun x => .lit (.float .f64 x), fun a b h => by injection h with h; injection h⟩
def EF3 : Enc (Nat × Nat × Nat) := ⟨fun p => .agg [.lit (.float .f64 p.1), .lit (.float .f64 p.2.1), .lit (.float .f64 p.2.2)], fun a b h => by
  simp only [D.agg.injEq, List.cons.injEq, D.lit.injEq, Value.float.injEq, true_and, and_true] at h
  exact Prod.ext h.1 (Prod.ext h.2.1 h.2.2)⟩
def EF3p : Enc (Nat × Nat × Nat) := ⟨fun p => .ptr (EF3.e p), fun a b h => by
  simp only [D.ptr.injEq] at h
  exact EF3.inj _ _ h⟩
def crs (x y z w : Nat) : Nat := fv .sub .f64 (fv .mul .f64 x y) (fv .mul .f64 z w)
def bth (x y z w : Nat) : Nat := fv .add .f64 (fabs (fv .mul .f64 x y)) (fabs (fv .mul .f64 z w))
def thr (a p b q c r : Nat) : Nat := fv .add .f64 (fv .add .f64 (fv .mul .f64 a p) (fv .mul .f64 b q)) (fv .mul .f64 c r)
def sur (d e : Nat) : Int := if fgt .f64 d e = true then 1 else if flt .f64 d (fneg .f64 e) = true then -1 else 0
theorem crs_fin {x y z w : Nat} (h1 : Fin 100 x) (h2 : Fin 100 y) (h3 : Fin 100 z) (h4 : Fin 100 w) : (fok .mul .f64 x y ∧ fok .mul .f64 z w ∧ fok .sub .f64 (fv .mul .f64 x y) (fv .mul .f64 z w)) ∧ Fin 204 (crs x y z w) := by
  obtain ⟨o1, f1⟩ := mul_fin h1 h2 (by omega) (by omega)
  obtain ⟨o2, f2⟩ := mul_fin h3 h4 (by omega) (by omega)
  obtain ⟨o3, f3⟩ := sub_fin f1 f2 (by omega) (by omega)
  exact ⟨⟨o1, o2, o3⟩, f3⟩
theorem bth_fin {x y z w : Nat} (h1 : Fin 100 x) (h2 : Fin 100 y) (h3 : Fin 100 z) (h4 : Fin 100 w) : (fok .mul .f64 x y ∧ fok .mul .f64 z w ∧ fok .add .f64 (fabs (fv .mul .f64 x y)) (fabs (fv .mul .f64 z w)) ∧ Fin 202 (fv .mul .f64 x y) ∧ Fin 202 (fv .mul .f64 z w)) ∧ Fin 204 (bth x y z w) := by
  obtain ⟨o1, f1⟩ := mul_fin h1 h2 (by omega) (by omega)
  obtain ⟨o2, f2⟩ := mul_fin h3 h4 (by omega) (by omega)
  obtain ⟨o3, f3⟩ := add_fin (abs_fin f1) (abs_fin f2) (by omega) (by omega)
  exact ⟨⟨o1, o2, o3, f1, f2⟩, f3⟩
theorem thr_fin {a p b q c r : Nat} (h1 : Fin 204 a) (h2 : Fin 204 p) (h3 : Fin 204 b) (h4 : Fin 204 q) (h5 : Fin 204 c) (h6 : Fin 204 r) :
    (fok .mul .f64 a p ∧ fok .mul .f64 b q ∧ fok .mul .f64 c r ∧ fok .add .f64 (fv .mul .f64 a p) (fv .mul .f64 b q) ∧ fok .add .f64 (fv .add .f64 (fv .mul .f64 a p) (fv .mul .f64 b q)) (fv .mul .f64 c r)) ∧ Fin 414 (thr a p b q c r) := by
  obtain ⟨o1, f1⟩ := mul_fin h1 h2 (by omega) (by omega)
  obtain ⟨o2, f2⟩ := mul_fin h3 h4 (by omega) (by omega)
  obtain ⟨o3, f3⟩ := mul_fin h5 h6 (by omega) (by omega)
  obtain ⟨o4, f4⟩ := add_fin f1 f2 (by omega) (by omega)
  obtain ⟨o5, f5⟩ := add_fin f4 f3 (by omega) (by omega)
  exact ⟨⟨o1, o2, o3, o4, o5⟩, f5⟩
theorem fin_k1 : Fin 0 4386506037058863104 := ⟨by
  rw [show Ieee.double.read 4386506037058863104 = .number false (2 ^ 52) (-101) by decide]
  exact .inr (by decide), by decide⟩
theorem fin_k2 : Fin 0 4382002437431492608 := ⟨by
  rw [show Ieee.double.read 4382002437431492608 = .number false (2 ^ 52) (-102) by decide]
  exact .inr (by decide), by decide⟩
theorem fin_zero : Fin 0 0 := ⟨by
  rw [read_zero]
  exact .inl rfl, by decide⟩
theorem dm_fin {n : Int} (h : dm n) : Fin 100 (floatOfInt .f64 n) := by
  unfold dm at h
  exact (int_fin n 30 (by omega) (by omega)).mono (by omega)
theorem bth_sq {x y : Nat} (h1 : Fin 100 x) (h2 : Fin 100 y) : fv .add .f64 (fv .mul .f64 x x) (fv .mul .f64 y y) = bth x x y y := by
  unfold bth
  rw [abs_sq h1 (by omega), abs_sq h2 (by omega)]
theorem bits_run (x : Nat) (w : World) : (callFunc 100 #[.float .f64 x]).run Try.prog w = .ok (.value (.int .u64 x)) w := by
  rw [run_callFunc_extern (fn := Try.f100) (e := Extern.MathFloatBits.float64bits) (by kernel_rfl) (by kernel_rfl) (by kernel_rfl) (by kernel_rfl) (by rfl)]
  rfl
theorem unbits_run (x : Int) (w : World) : (callFunc 99 #[.int .u64 x]).run Try.prog w = .ok (.value (.float .f64 x.toNat)) w := by
  rw [run_callFunc_extern (fn := Try.f99) (e := Extern.MathFloatBits.float64frombits) (by kernel_rfl) (by kernel_rfl) (by kernel_rfl) (by kernel_rfl) (by rfl)]
  rfl
theorem andNot_top (x : Nat) (hx : x < 2 ^ 64) : (bAnn .u64 (x : Int) 9223372036854775808).toNat = fabs x := by
  unfold bAnn fabs
  have e1 : (BitVec.ofInt 64 (x : Int)).toNat = x := toNat_ofInt_nat 64 x hx
  have e2 : (BitVec.ofInt 64 (x : Int) &&& ~~~(BitVec.ofInt 64 9223372036854775808)).toNat = x % 2 ^ 63 := by
    have : ~~~(BitVec.ofInt 64 9223372036854775808) = BitVec.ofNat 64 (2 ^ 63 - 1) := by decide
    rw [this, BitVec.toNat_and, e1, BitVec.toNat_ofNat, Nat.mod_eq_of_lt (show 2 ^ 63 - 1 < 2 ^ 64 by decide), Nat.and_two_pow_sub_one_eq_mod]
  show (IntKind.u64.wrap ((BitVec.ofInt 64 (x : Int) &&& ~~~(BitVec.ofInt 64 9223372036854775808)).toNat : Int)).toNat = _
  rw [e2]
  have h3 : x % 2 ^ 63 < 2 ^ 63 := Nat.mod_lt _ (by decide)
  generalize x % 2 ^ 63 = r at h3
  rw [u64_id _ (by omega) (by omega), Int.toNat_natCast]
set_option maxRecDepth 100000 in
theorem mabs_walk (x : Nat) (hx : x < 2 ^ 64) (w : World) : Calls Try.prog 60 #[.float .f64 x] w fun e w' => e = .returned (.float .f64 (fabs x)) ∧ w' = w := by
  have hd := bits_run x
  have e : (bits .andNot .u64 (x : Int) 9223372036854775808).toNat = fabs x := andNot_top x hx
  have hd2 := unbits_run (bits .andNot .u64 (x : Int) 9223372036854775808)
  simp only [e] at hd2
  refine calls_of_wp (fn := Try.f60) (by kernel_rfl) rfl ?_
  simp only [Try.f60, List.size_toArray, List.length_cons, List.length_nil, Nat.reduceAdd, Nat.reduceSub, Array.replicate_succ, Array.replicate_zero, List.push_toArray, List.append_toArray, List.nil_append, List.cons_append]
  go_wp2
  go_ret
  exact ⟨rfl, rfl⟩
noncomputable def mabsC := ct1 EF (fun x => x < 2 ^ 64) (fun x => [.lit (.float .f64 (fabs x))])
@[simp] theorem mabsC_at (x : Nat) : mabsC [.lit (.float .f64 x)] = (x < 2 ^ 64, [.lit (.float .f64 (fabs x))]) := ct1_at (A := EF) x
theorem mabs_ok : callable Try.prog 60 = true := by kernel_rfl
theorem mabs_spec {N : NR} : SpecD N Try.prog 60 mabsC := by
  intro ds hp F w vs hF hv
  obtain ⟨x, rfl, h1, h2⟩ := ctD_pre hp
  have h2 : mabsC [EF.e x] = _ := h2
  obtain ⟨hl, hr⟩ := hv
  cases vs with
  | nil => cases hl
  | cons v vs =>
    cases vs with
    | cons _ _ => cases hl
    | nil =>
      obtain ⟨rfl, _⟩ := RepV.lit (hr 0 _ v rfl rfl)
      refine (mabs_walk x h1 w).mono ?_
      rintro e w' ⟨rfl, rfl⟩
      rw [h2]
      exact ⟨_, rfl, RepV.of_lit rfl, ⟨rfl, rfl, rfl, Nat.le_refl _, fun _ _ _ => rfl⟩⟩
noncomputable def sAbsC := ct1 EF (fun p0 => Fin 500 p0) (fun p0 => [.lit (.float .f64 (fabs p0))])
@[simp] theorem sAbsC_at (x : Nat) : sAbsC [.lit (.float .f64 x)] = (Fin 500 x, [.lit (.float .f64 (fabs x))]) := ct1_at x
set_option maxRecDepth 100000 in
set_option maxHeartbeats 4000000 in
theorem sAbs_spec {N : NR} : SpecD N Try.prog 62 sAbsC := by
  refine rd1 (mf := fun f => false) (tb := tbl []) tbl_nil (fn := Try.f62) (by kernel_rfl) rfl (by kernel_rfl) (by kernel_rfl) ?_
  rintro x hp
  have hp : Fin 500 x := hp
  show awp _ _ _ _ (start _ ([.lit (.float .f64 x)].map .dat) []) (endK _ _ _ (([.lit (.float .f64 (fabs x))]).map .dat) [])
  have hx : Fin 500 x := hp
  rw [← abs_ref hx]
  cases h1 : flt .f64 x 0 <;> cases h2 : feq .f64 x 0 <;>  simp [-D.isLit, Try.f62, h1, h2]
theorem sAbs_ok : callable Try.prog 62 = true := by kernel_rfl
noncomputable def sCrossC := ct4 EF EF EF EF (fun p0 p1 p2 p3 => Fin 100 p0 ∧ Fin 100 p1 ∧ Fin 100 p2 ∧ Fin 100 p3) (fun p0 p1 p2 p3 => [.lit (.float .f64 (crs p0 p1 p2 p3))])
@[simp] theorem sCrossC_at (x : Nat) (y : Nat) (z : Nat) (w : Nat) : sCrossC [.lit (.float .f64 x), .lit (.float .f64 y), .lit (.float .f64 z), .lit (.float .f64 w)] = (Fin 100 x ∧ Fin 100 y ∧ Fin 100 z ∧ Fin 100 w, [.lit (.float .f64 (crs x y z w))]) := ct4_at x y z w
set_option maxRecDepth 100000 in
set_option maxHeartbeats 4000000 in
theorem sCross_spec {N : NR} : SpecD N Try.prog 56 sCrossC := by
  refine rd4 (mf := fun f => false) (tb := tbl []) tbl_nil (fn := Try.f56) (by kernel_rfl) rfl (by kernel_rfl) (by kernel_rfl) ?_
  rintro x y z w hp
  have hp : Fin 100 x ∧ Fin 100 y ∧ Fin 100 z ∧ Fin 100 w := hp
  show awp _ _ _ _ (start _ ([.lit (.float .f64 x), .lit (.float .f64 y), .lit (.float .f64 z), .lit (.float .f64 w)].map .dat) []) (endK _ _ _ (([.lit (.float .f64 (crs x y z w))]).map .dat) [])
  obtain ⟨h1, h2, h3, h4⟩ := hp
  obtain ⟨⟨o1, o2, o3⟩, _⟩ := crs_fin h1 h2 h3 h4
  simp [-D.isLit, Try.f56, o1, o2, o3, crs]
theorem sCross_ok : callable Try.prog 56 = true := by kernel_rfl
noncomputable def sBothC := ct4 EF EF EF EF (fun p0 p1 p2 p3 => Fin 100 p0 ∧ Fin 100 p1 ∧ Fin 100 p2 ∧ Fin 100 p3) (fun p0 p1 p2 p3 => [.lit (.float .f64 (bth p0 p1 p2 p3))])
@[simp] theorem sBothC_at (x : Nat) (y : Nat) (z : Nat) (w : Nat) : sBothC [.lit (.float .f64 x), .lit (.float .f64 y), .lit (.float .f64 z), .lit (.float .f64 w)] = (Fin 100 x ∧ Fin 100 y ∧ Fin 100 z ∧ Fin 100 w, [.lit (.float .f64 (bth x y z w))]) := ct4_at x y z w
noncomputable def sBothTb : List (FuncId × Ct) := [(62, .data sAbsC)]
theorem sBothTb_ok {N : NR} : TbOK N Try.prog (tbl sBothTb) := tbl_cons (c := .data sAbsC) sAbs_spec sAbs_ok tbl_nil
@[simp] theorem sBothTb1 : tbl sBothTb 62 = some (.data sAbsC) := rfl
set_option maxRecDepth 100000 in
set_option maxHeartbeats 4000000 in
theorem sBoth_spec {N : NR} : SpecD N Try.prog 54 sBothC := by
  refine rd4 (mf := fun f => false) sBothTb_ok (fn := Try.f54) (by kernel_rfl) rfl (by kernel_rfl) (by kernel_rfl) ?_
  rintro x y z w hp
  have hp : Fin 100 x ∧ Fin 100 y ∧ Fin 100 z ∧ Fin 100 w := hp
  show awp _ _ _ _ (start _ ([.lit (.float .f64 x), .lit (.float .f64 y), .lit (.float .f64 z), .lit (.float .f64 w)].map .dat) []) (endK _ _ _ (([.lit (.float .f64 (bth x y z w))]).map .dat) [])
  obtain ⟨h1, h2, h3, h4⟩ := hp
  obtain ⟨⟨o1, o2, o3, f1, f2⟩, _⟩ := bth_fin h1 h2 h3 h4
  simp [-D.isLit, Try.f54, o1, o2, o3, f1.mono (show 202 ≤ 500 by omega), f2.mono (show 202 ≤ 500 by omega), bth]
theorem sBoth_ok : callable Try.prog 54 = true := by kernel_rfl
noncomputable def sSureC := ct2 EF EF (fun p0 p1 => True) (fun p0 p1 => [.lit (.int .i64 (sur p0 p1))])
@[simp] theorem sSureC_at (d : Nat) (e : Nat) : sSureC [.lit (.float .f64 d), .lit (.float .f64 e)] = (True, [.lit (.int .i64 (sur d e))]) := ct2_at d e
set_option maxRecDepth 100000 in
set_option maxHeartbeats 4000000 in
theorem sSure_spec {N : NR} : SpecD N Try.prog 57 sSureC := by
  refine rd2 (mf := fun f => false) (tb := tbl []) tbl_nil (fn := Try.f57) (by kernel_rfl) rfl (by kernel_rfl) (by kernel_rfl) ?_
  rintro d e hp
  have hp : True := hp
  show awp _ _ _ _ (start _ ([.lit (.float .f64 d), .lit (.float .f64 e)].map .dat) []) (endK _ _ _ (([.lit (.int .i64 (sur d e))]).map .dat) [])
  obtain _ := hp
  unfold sur
  cases h1 : fgt .f64 d e <;> cases h2 : flt .f64 d (fneg .f64 e) <;>  simp [-D.isLit, Try.f57, h1, h2]
theorem sSure_ok : callable Try.prog 57 = true := by kernel_rfl
noncomputable def iSureC := ct2 EF EF (fun p0 p1 => True) (fun p0 p1 => [.lit (.float .f64 p0), .lit (.float .f64 p1), .lit (.int .i64 (sur p0 p1))])
@[simp] theorem iSureC_at (d : Nat) (e : Nat) : iSureC [.lit (.float .f64 d), .lit (.float .f64 e)] = (True, [.lit (.float .f64 d), .lit (.float .f64 e), .lit (.int .i64 (sur d e))]) := ct2_at d e
set_option maxRecDepth 100000 in
set_option maxHeartbeats 4000000 in
theorem iSure_spec {N : NR} : SpecD N Try.prog 61 iSureC := by
  refine rd2 (mf := fun f => false) (tb := tbl []) tbl_nil (fn := Try.f61) (by kernel_rfl) rfl (by kernel_rfl) (by kernel_rfl) ?_
  rintro d e hp
  have hp : True := hp
  show awp _ _ _ _ (start _ ([.lit (.float .f64 d), .lit (.float .f64 e)].map .dat) []) (endK _ _ _ (([.lit (.float .f64 d), .lit (.float .f64 e), .lit (.int .i64 (sur d e))]).map .dat) [])
  obtain _ := hp
  unfold sur
  cases h1 : fgt .f64 d e <;> cases h2 : flt .f64 d (fneg .f64 e) <;>  simp [-D.isLit, Try.f61, h1, h2]
theorem iSure_ok : callable Try.prog 61 = true := by kernel_rfl
noncomputable def thrC := ctD (fun p : Nat × Nat × Nat × Nat × Nat × Nat => [EF.e p.1, EF.e p.2.1, EF.e p.2.2.1, EF.e p.2.2.2.1, EF.e p.2.2.2.2.1, EF.e p.2.2.2.2.2]) (fun p => Fin 204 p.1 ∧ Fin 204 p.2.1 ∧ Fin 204 p.2.2.1 ∧ Fin 204 p.2.2.2.1 ∧ Fin 204 p.2.2.2.2.1 ∧ Fin 204 p.2.2.2.2.2) (fun p => [.lit (.float .f64 (thr p.1 p.2.1 p.2.2.1 p.2.2.2.1 p.2.2.2.2.1 p.2.2.2.2.2))])
@[simp] theorem thrC_at (a p b q c r : Nat) : thrC [.lit (.float .f64 a), .lit (.float .f64 p), .lit (.float .f64 b), .lit (.float .f64 q), .lit (.float .f64 c), .lit (.float .f64 r)] = (Fin 204 a ∧ Fin 204 p ∧ Fin 204 b ∧ Fin 204 q ∧ Fin 204 c ∧ Fin 204 r, [.lit (.float .f64 (thr a p b q c r))]) :=
  ctD_at (e := fun p : Nat × Nat × Nat × Nat × Nat × Nat => [EF.e p.1, EF.e p.2.1, EF.e p.2.2.1, EF.e p.2.2.2.1, EF.e p.2.2.2.2.1, EF.e p.2.2.2.2.2]) (fun p q h => by
    simp only [List.cons.injEq, and_true] at h
    obtain ⟨h1, h2, h3, h4, h5, h6⟩ := h
    exact Prod.ext (EF.inj _ _ h1) (Prod.ext (EF.inj _ _ h2) (Prod.ext (EF.inj _ _ h3) (Prod.ext (EF.inj _ _ h4) (Prod.ext (EF.inj _ _ h5) (EF.inj _ _ h6)))))) (a, p, b, q, c, r)
set_option maxRecDepth 100000 in
set_option maxHeartbeats 4000000 in
theorem thr_spec {N : NR} : SpecD N Try.prog 55 thrC := by
  refine rdD (mf := fun f => false) (tb := tbl []) tbl_nil (fn := Try.f55) (by kernel_rfl) rfl (by kernel_rfl) ?_
  rintro ⟨a, p, b, q, c, r⟩ ⟨h1, h2, h3, h4, h5, h6⟩
  refine ⟨by show 6 ≤ 32; decide, ?_⟩
  obtain ⟨⟨o1, o2, o3, o4, o5⟩, _⟩ := thr_fin h1 h2 h3 h4 h5 h6
  show awp _ _ _ _ (start _ ([.lit (.float .f64 a), .lit (.float .f64 p), .lit (.float .f64 b), .lit (.float .f64 q), .lit (.float .f64 c), .lit (.float .f64 r)].map .dat) []) (endK _ _ _ (([.lit (.float .f64 (thr a p b q c r))]).map .dat) [])
  simp [-D.isLit, Try.f55, o1, o2, o3, o4, o5, thr]
theorem thr_ok : callable Try.prog 55 = true := by kernel_rfl
noncomputable def rowF2C := ct2 EI2 EI2p (fun p0 p1 => c2 (p0.1, p0.2) ∧ c2 (p1.1, p1.2)) (fun p0 p1 => [.agg [.lit (.float .f64 (floatOfInt .f64 (p0.1 - p1.1))), .lit (.float .f64 (floatOfInt .f64 (p0.2 - p1.2))), .lit (.float .f64 (bth (floatOfInt .f64 (p0.1 - p1.1)) (floatOfInt .f64 (p0.1 - p1.1)) (floatOfInt .f64 (p0.2 - p1.2)) (floatOfInt .f64 (p0.2 - p1.2))))]])
@[simp] theorem rowF2C_at (a b : Int) (c d : Int) : rowF2C [.agg [.lit (.int .i64 a), .lit (.int .i64 b)], .ptr (.agg [.lit (.int .i64 c), .lit (.int .i64 d)])] = (c2 (a, b) ∧ c2 (c, d), [.agg [.lit (.float .f64 (floatOfInt .f64 (a - c))), .lit (.float .f64 (floatOfInt .f64 (b - d))), .lit (.float .f64 (bth (floatOfInt .f64 (a - c)) (floatOfInt .f64 (a - c)) (floatOfInt .f64 (b - d)) (floatOfInt .f64 (b - d))))]]) := ct2_at (a, b) (c, d)
set_option maxRecDepth 100000 in
set_option maxHeartbeats 4000000 in
theorem rowF2_spec {N : NR} : SpecD N Try.prog 58 rowF2C := by
  refine rd2 (mf := fun f => false) (tb := tbl []) tbl_nil (fn := Try.f58) (by kernel_rfl) rfl (by kernel_rfl) (by kernel_rfl) ?_
  rintro ⟨a, b⟩ ⟨c, d⟩ hp
  have hp : c2 (a, b) ∧ c2 (c, d) := hp
  show awp _ _ _ _ (start _ ([.agg [.lit (.int .i64 a), .lit (.int .i64 b)], .ptr (.agg [.lit (.int .i64 c), .lit (.int .i64 d)])].map .dat) []) (endK _ _ _ (([.agg [.lit (.float .f64 (floatOfInt .f64 (a - c))), .lit (.float .f64 (floatOfInt .f64 (b - d))), .lit (.float .f64 (bth (floatOfInt .f64 (a - c)) (floatOfInt .f64 (a - c)) (floatOfInt .f64 (b - d)) (floatOfInt .f64 (b - d))))]]).map .dat) [])
  obtain ⟨⟨a1, a2⟩, a3, a4⟩ := hp
  have d0 : dm (a - c) := dm_sub a1 a3
  have d1 : dm (b - d) := dm_sub a2 a4
  have i0 := dm_i64 d0
  have i1 := dm_i64 d1
  unfold I64 at i0 i1
  have w0 : IntKind.i64.wrap (a - c) = a - c := i64_id _ (by omega) (by omega)
  have w1 : IntKind.i64.wrap (b - d) = b - d := i64_id _ (by omega) (by omega)
  have f0 := dm_fin d0
  have f1 := dm_fin d1
  generalize hx : floatOfInt .f64 (a - c) = x at f0 ⊢
  generalize hy : floatOfInt .f64 (b - d) = y at f1 ⊢
  obtain ⟨o1, g1⟩ := mul_fin f0 f0 (by omega) (by omega)
  obtain ⟨o2, g2⟩ := mul_fin f1 f1 (by omega) (by omega)
  obtain ⟨o3, g3⟩ := add_fin g1 g2 (by omega) (by omega)
  rw [← bth_sq f0 f1]
  simp [-D.isLit, Try.f58, w0, w1, hx, hy, o1, o2, o3]
theorem rowF2_ok : callable Try.prog 58 = true := by kernel_rfl
noncomputable def pairF2C := ct2 EF3 EF3 (fun p0 p1 => Fin 100 p0.1 ∧ Fin 100 p0.2.1 ∧ Fin 100 p1.1 ∧ Fin 100 p1.2.1) (fun p0 p1 => [.lit (.float .f64 (crs p0.1 p1.2.1 p1.1 p0.2.1)), .lit (.float .f64 (bth p0.1 p1.2.1 p1.1 p0.2.1))])
@[simp] theorem pairF2C_at (a b c : Nat) (d e f : Nat) : pairF2C [.agg [.lit (.float .f64 a), .lit (.float .f64 b), .lit (.float .f64 c)], .agg [.lit (.float .f64 d), .lit (.float .f64 e), .lit (.float .f64 f)]] = (Fin 100 a ∧ Fin 100 b ∧ Fin 100 d ∧ Fin 100 e, [.lit (.float .f64 (crs a e d b)), .lit (.float .f64 (bth a e d b))]) := ct2_at (a, b, c) (d, e, f)
noncomputable def pairF2Tb : List (FuncId × Ct) := [(60, .data mabsC)]
theorem pairF2Tb_ok {N : NR} : TbOK N Try.prog (tbl pairF2Tb) := tbl_cons (c := .data mabsC) mabs_spec mabs_ok tbl_nil
@[simp] theorem pairF2Tb1 : tbl pairF2Tb 60 = some (.data mabsC) := rfl
set_option maxRecDepth 100000 in
set_option maxHeartbeats 4000000 in
theorem pairF2_spec {N : NR} : SpecD N Try.prog 59 pairF2C := by
  refine rd2 (mf := fun f => false) pairF2Tb_ok (fn := Try.f59) (by kernel_rfl) rfl (by kernel_rfl) (by kernel_rfl) ?_
  rintro ⟨a, b, c⟩ ⟨d, e, f⟩ hp
  have hp : Fin 100 a ∧ Fin 100 b ∧ Fin 100 d ∧ Fin 100 e := hp
  show awp _ _ _ _ (start _ ([.agg [.lit (.float .f64 a), .lit (.float .f64 b), .lit (.float .f64 c)], .agg [.lit (.float .f64 d), .lit (.float .f64 e), .lit (.float .f64 f)]].map .dat) []) (endK _ _ _ (([.lit (.float .f64 (crs a e d b)), .lit (.float .f64 (bth a e d b))]).map .dat) [])
  obtain ⟨h1, h2, h3, h4⟩ := hp
  obtain ⟨⟨o1, o2, o3⟩, _⟩ := crs_fin h1 h4 h3 h2
  obtain ⟨⟨_, _, o4, g1, g2⟩, _⟩ := bth_fin h1 h4 h3 h2
  simp [-D.isLit, Try.f59, o1, o2, o3, o4, g1.2, g2.2, crs, bth]
theorem pairF2_ok : callable Try.prog 59 = true := by kernel_rfl
noncomputable def rowF3C := ct2 EI3 EI3p (fun p0 p1 => c3 (p0.1, p0.2.1, p0.2.2) ∧ c3 (p1.1, p1.2.1, p1.2.2)) (fun p0 p1 => [.agg [.lit (.float .f64 (floatOfInt .f64 (p0.1 - p1.1))), .lit (.float .f64 (floatOfInt .f64 (p0.2.1 - p1.2.1))), .lit (.float .f64 (floatOfInt .f64 (p0.2.2 - p1.2.2)))]])
@[simp] theorem rowF3C_at (a b c : Int) (d e f : Int) : rowF3C [.agg [.lit (.int .i64 a), .lit (.int .i64 b), .lit (.int .i64 c)], .ptr (.agg [.lit (.int .i64 d), .lit (.int .i64 e), .lit (.int .i64 f)])] = (c3 (a, b, c) ∧ c3 (d, e, f), [.agg [.lit (.float .f64 (floatOfInt .f64 (a - d))), .lit (.float .f64 (floatOfInt .f64 (b - e))), .lit (.float .f64 (floatOfInt .f64 (c - f)))]]) := ct2_at (a, b, c) (d, e, f)
noncomputable def rowF3Tb : List (FuncId × Ct) := [(44, .data less3C)]
theorem rowF3Tb_ok {N : NR} : TbOK N Try.prog (tbl rowF3Tb) := tbl_cons (c := .data less3C) less3_spec less3_ok tbl_nil
@[simp] theorem rowF3Tb1 : tbl rowF3Tb 44 = some (.data less3C) := rfl
set_option maxRecDepth 100000 in
set_option maxHeartbeats 4000000 in
theorem rowF3_spec {N : NR} : SpecD N Try.prog 63 rowF3C := by
  refine rd2 (mf := fun f => false) rowF3Tb_ok (fn := Try.f63) (by kernel_rfl) rfl (by kernel_rfl) (by kernel_rfl) ?_
  rintro ⟨a, b, c⟩ ⟨d, e, f⟩ hp
  have hp : c3 (a, b, c) ∧ c3 (d, e, f) := hp
  show awp _ _ _ _ (start _ ([.agg [.lit (.int .i64 a), .lit (.int .i64 b), .lit (.int .i64 c)], .ptr (.agg [.lit (.int .i64 d), .lit (.int .i64 e), .lit (.int .i64 f)])].map .dat) []) (endK _ _ _ (([.agg [.lit (.float .f64 (floatOfInt .f64 (a - d))), .lit (.float .f64 (floatOfInt .f64 (b - e))), .lit (.float .f64 (floatOfInt .f64 (c - f)))]]).map .dat) [])
  have cl : less3C [.agg [.lit (.int .i64 a), .lit (.int .i64 b), .lit (.int .i64 c)], .agg [.lit (.int .i64 d), .lit (.int .i64 e), .lit (.int .i64 f)]] = (True, [.agg [.lit (.int .i64 (a - d)), .lit (.int .i64 (b - e)), .lit (.int .i64 (c - f))]]) := by rw [less3C_at, eq_true hp]
  simp [-D.isLit, -less3C_at, Try.f63, cl]
theorem rowF3_ok : callable Try.prog 63 = true := by kernel_rfl
def sel3 (i : Int) (x y z : Nat) : Nat := if i = 0 then x else if i = 1 then y else z
@[simp] theorem sel3_0 (x y z : Nat) : sel3 0 x y z = x := rfl
@[simp] theorem sel3_1 (x y z : Nat) : sel3 1 x y z = y := rfl
@[simp] theorem sel3_2 (x y z : Nat) : sel3 2 x y z = z := rfl
noncomputable def pairF3C := ct4 EInt EInt EF3p EF3p (fun p0 p1 p2 p3 => ((p0 = 1 ∧ p1 = 2) ∨ (p0 = 2 ∧ p1 = 0) ∨ (p0 = 0 ∧ p1 = 1)) ∧ Fin 100 p2.1 ∧ Fin 100 p2.2.1 ∧ Fin 100 p2.2.2 ∧ Fin 100 p3.1 ∧ Fin 100 p3.2.1 ∧ Fin 100 p3.2.2) (fun p0 p1 p2 p3 => [.lit (.float .f64 (crs (sel3 p0 p2.1 p2.2.1 p2.2.2) (sel3 p1 p3.1 p3.2.1 p3.2.2) (sel3 p1 p2.1 p2.2.1 p2.2.2) (sel3 p0 p3.1 p3.2.1 p3.2.2))), .lit (.float .f64 (bth (sel3 p0 p2.1 p2.2.1 p2.2.2) (sel3 p1 p3.1 p3.2.1 p3.2.2) (sel3 p1 p2.1 p2.2.1 p2.2.2) (sel3 p0 p3.1 p3.2.1 p3.2.2)))])
@[simp] theorem pairF3C_at (i : Int) (j : Int) (a b c : Nat) (d e f : Nat) : pairF3C [.lit (.int .i64 i), .lit (.int .i64 j), .ptr (.agg [.lit (.float .f64 a), .lit (.float .f64 b), .lit (.float .f64 c)]), .ptr (.agg [.lit (.float .f64 d), .lit (.float .f64 e), .lit (.float .f64 f)])] = (((i = 1 ∧ j = 2) ∨ (i = 2 ∧ j = 0) ∨ (i = 0 ∧ j = 1)) ∧ Fin 100 a ∧ Fin 100 b ∧ Fin 100 c ∧ Fin 100 d ∧ Fin 100 e ∧ Fin 100 f, [.lit (.float .f64 (crs (sel3 i a b c) (sel3 j d e f) (sel3 j a b c) (sel3 i d e f))), .lit (.float .f64 (bth (sel3 i a b c) (sel3 j d e f) (sel3 j a b c) (sel3 i d e f)))]) := ct4_at i j (a, b, c) (d, e, f)
noncomputable def pairF3Tb : List (FuncId × Ct) := [(60, .data mabsC)]
theorem pairF3Tb_ok {N : NR} : TbOK N Try.prog (tbl pairF3Tb) := tbl_cons (c := .data mabsC) mabs_spec mabs_ok tbl_nil
@[simp] theorem pairF3Tb1 : tbl pairF3Tb 60 = some (.data mabsC) := rfl
set_option maxRecDepth 100000 in
set_option maxHeartbeats 4000000 in
theorem pairF3_spec {N : NR} : SpecD N Try.prog 64 pairF3C := by
  refine rd4 (mf := fun f => false) pairF3Tb_ok (fn := Try.f64) (by kernel_rfl) rfl (by kernel_rfl) (by kernel_rfl) ?_
  rintro i j ⟨a, b, c⟩ ⟨d, e, f⟩ hp
  have hp : ((i = 1 ∧ j = 2) ∨ (i = 2 ∧ j = 0) ∨ (i = 0 ∧ j = 1)) ∧ Fin 100 a ∧ Fin 100 b ∧ Fin 100 c ∧ Fin 100 d ∧ Fin 100 e ∧ Fin 100 f := hp
  show awp _ _ _ _ (start _ ([.lit (.int .i64 i), .lit (.int .i64 j), .ptr (.agg [.lit (.float .f64 a), .lit (.float .f64 b), .lit (.float .f64 c)]), .ptr (.agg [.lit (.float .f64 d), .lit (.float .f64 e), .lit (.float .f64 f)])].map .dat) []) (endK _ _ _ (([.lit (.float .f64 (crs (sel3 i a b c) (sel3 j d e f) (sel3 j a b c) (sel3 i d e f))), .lit (.float .f64 (bth (sel3 i a b c) (sel3 j d e f) (sel3 j a b c) (sel3 i d e f)))]).map .dat) [])
  obtain ⟨hij, h1, h2, h3, h4, h5, h6⟩ := hp
  rcases hij with ⟨rfl, rfl⟩ | ⟨rfl, rfl⟩ | ⟨rfl, rfl⟩
  · obtain ⟨⟨o1, o2, o3⟩, _⟩ := crs_fin h2 h6 h3 h5
    obtain ⟨⟨_, _, o4, g1, g2⟩, _⟩ := bth_fin h2 h6 h3 h5
    simp [-D.isLit, Try.f64, o1, o2, o3, o4, g1.2, g2.2, crs, bth]
  · obtain ⟨⟨o1, o2, o3⟩, _⟩ := crs_fin h3 h4 h1 h6
    obtain ⟨⟨_, _, o4, g1, g2⟩, _⟩ := bth_fin h3 h4 h1 h6
    simp [-D.isLit, Try.f64, o1, o2, o3, o4, g1.2, g2.2, crs, bth]
  · obtain ⟨⟨o1, o2, o3⟩, _⟩ := crs_fin h1 h5 h2 h4
    obtain ⟨⟨_, _, o4, g1, g2⟩, _⟩ := bth_fin h1 h5 h2 h4
    simp [-D.isLit, Try.f64, o1, o2, o3, o4, g1.2, g2.2, crs, bth]
theorem pairF3_ok : callable Try.prog 64 = true := by kernel_rfl
noncomputable def sameFC := ct2 EF EF (fun p0 p1 => p0 = p1 ∧ Fin 500 p0) (fun p0 p1 => [.lit (.bool true)])
@[simp] theorem sameFC_at (a : Nat) (b : Nat) : sameFC [.lit (.float .f64 a), .lit (.float .f64 b)] = (a = b ∧ Fin 500 a, [.lit (.bool true)]) := ct2_at a b
set_option maxRecDepth 100000 in
set_option maxHeartbeats 4000000 in
theorem sameF_spec {N : NR} : SpecD N Try.prog 23 sameFC := by
  refine rd2 (mf := fun f => false) (tb := tbl []) tbl_nil (fn := Try.f23) (by kernel_rfl) rfl (by kernel_rfl) (by kernel_rfl) ?_
  rintro a b hp
  have hp : a = b ∧ Fin 500 a := hp
  show awp _ _ _ _ (start _ ([.lit (.float .f64 a), .lit (.float .f64 b)].map .dat) []) (endK _ _ _ (([.lit (.bool true)]).map .dat) [])
  obtain ⟨rfl, h⟩ := hp
  have h1 := feq_self h
  cases h2 : feq .f64 a 0 with
  | true =>
    have h3 := quo_ok h h2
    simp [-D.isLit, Try.f23, h1, h2, h3]
  | false => simp [-D.isLit, Try.f23, h1, h2]
theorem sameF_ok : callable Try.prog 23 = true := by kernel_rfl
theorem sameF_self {x : Nat} (h : Fin 500 x) : sameFC [.lit (.float .f64 x), .lit (.float .f64 x)] = (True, [.lit (.bool true)]) := by rw [sameFC_at, eq_true (show x = x ∧ Fin 500 x from ⟨rfl, h⟩)]
noncomputable def iFInCircleC := ct4 EI2 EI2 EI2 EI2 (fun p0 p1 p2 p3 => True) (fun p0 p1 p2 p3 => [.lit (.float .f64 (if c2 (p0.1, p0.2) ∧ c2 (p1.1, p1.2) ∧ c2 (p2.1, p2.2) ∧ c2 (p3.1, p3.2) then (thr (bth (floatOfInt .f64 (p0.1 - p3.1)) (floatOfInt .f64 (p0.1 - p3.1)) (floatOfInt .f64 (p0.2 - p3.2)) (floatOfInt .f64 (p0.2 - p3.2))) (crs (floatOfInt .f64 (p1.1 - p3.1)) (floatOfInt .f64 (p2.2 - p3.2)) (floatOfInt .f64 (p2.1 - p3.1)) (floatOfInt .f64 (p1.2 - p3.2))) (bth (floatOfInt .f64 (p1.1 - p3.1)) (floatOfInt .f64 (p1.1 - p3.1)) (floatOfInt .f64 (p1.2 - p3.2)) (floatOfInt .f64 (p1.2 - p3.2))) (crs (floatOfInt .f64 (p2.1 - p3.1)) (floatOfInt .f64 (p0.2 - p3.2)) (floatOfInt .f64 (p0.1 - p3.1)) (floatOfInt .f64 (p2.2 - p3.2))) (bth (floatOfInt .f64 (p2.1 - p3.1)) (floatOfInt .f64 (p2.1 - p3.1)) (floatOfInt .f64 (p2.2 - p3.2)) (floatOfInt .f64 (p2.2 - p3.2))) (crs (floatOfInt .f64 (p0.1 - p3.1)) (floatOfInt .f64 (p1.2 - p3.2)) (floatOfInt .f64 (p1.1 - p3.1)) (floatOfInt .f64 (p0.2 - p3.2)))) else 0)), .lit (.float .f64 (if c2 (p0.1, p0.2) ∧ c2 (p1.1, p1.2) ∧ c2 (p2.1, p2.2) ∧ c2 (p3.1, p3.2) then (fv .mul .f64 (thr (bth (floatOfInt .f64 (p0.1 - p3.1)) (floatOfInt .f64 (p0.1 - p3.1)) (floatOfInt .f64 (p0.2 - p3.2)) (floatOfInt .f64 (p0.2 - p3.2))) (bth (floatOfInt .f64 (p1.1 - p3.1)) (floatOfInt .f64 (p2.2 - p3.2)) (floatOfInt .f64 (p2.1 - p3.1)) (floatOfInt .f64 (p1.2 - p3.2))) (bth (floatOfInt .f64 (p1.1 - p3.1)) (floatOfInt .f64 (p1.1 - p3.1)) (floatOfInt .f64 (p1.2 - p3.2)) (floatOfInt .f64 (p1.2 - p3.2))) (bth (floatOfInt .f64 (p2.1 - p3.1)) (floatOfInt .f64 (p0.2 - p3.2)) (floatOfInt .f64 (p0.1 - p3.1)) (floatOfInt .f64 (p2.2 - p3.2))) (bth (floatOfInt .f64 (p2.1 - p3.1)) (floatOfInt .f64 (p2.1 - p3.1)) (floatOfInt .f64 (p2.2 - p3.2)) (floatOfInt .f64 (p2.2 - p3.2))) (bth (floatOfInt .f64 (p0.1 - p3.1)) (floatOfInt .f64 (p1.2 - p3.2)) (floatOfInt .f64 (p1.1 - p3.1)) (floatOfInt .f64 (p0.2 - p3.2)))) 4386506037058863104) else 0)), .lit (.int .i64 (if c2 (p0.1, p0.2) ∧ c2 (p1.1, p1.2) ∧ c2 (p2.1, p2.2) ∧ c2 (p3.1, p3.2) then sur (thr (bth (floatOfInt .f64 (p0.1 - p3.1)) (floatOfInt .f64 (p0.1 - p3.1)) (floatOfInt .f64 (p0.2 - p3.2)) (floatOfInt .f64 (p0.2 - p3.2))) (crs (floatOfInt .f64 (p1.1 - p3.1)) (floatOfInt .f64 (p2.2 - p3.2)) (floatOfInt .f64 (p2.1 - p3.1)) (floatOfInt .f64 (p1.2 - p3.2))) (bth (floatOfInt .f64 (p1.1 - p3.1)) (floatOfInt .f64 (p1.1 - p3.1)) (floatOfInt .f64 (p1.2 - p3.2)) (floatOfInt .f64 (p1.2 - p3.2))) (crs (floatOfInt .f64 (p2.1 - p3.1)) (floatOfInt .f64 (p0.2 - p3.2)) (floatOfInt .f64 (p0.1 - p3.1)) (floatOfInt .f64 (p2.2 - p3.2))) (bth (floatOfInt .f64 (p2.1 - p3.1)) (floatOfInt .f64 (p2.1 - p3.1)) (floatOfInt .f64 (p2.2 - p3.2)) (floatOfInt .f64 (p2.2 - p3.2))) (crs (floatOfInt .f64 (p0.1 - p3.1)) (floatOfInt .f64 (p1.2 - p3.2)) (floatOfInt .f64 (p1.1 - p3.1)) (floatOfInt .f64 (p0.2 - p3.2)))) (fv .mul .f64 (thr (bth (floatOfInt .f64 (p0.1 - p3.1)) (floatOfInt .f64 (p0.1 - p3.1)) (floatOfInt .f64 (p0.2 - p3.2)) (floatOfInt .f64 (p0.2 - p3.2))) (bth (floatOfInt .f64 (p1.1 - p3.1)) (floatOfInt .f64 (p2.2 - p3.2)) (floatOfInt .f64 (p2.1 - p3.1)) (floatOfInt .f64 (p1.2 - p3.2))) (bth (floatOfInt .f64 (p1.1 - p3.1)) (floatOfInt .f64 (p1.1 - p3.1)) (floatOfInt .f64 (p1.2 - p3.2)) (floatOfInt .f64 (p1.2 - p3.2))) (bth (floatOfInt .f64 (p2.1 - p3.1)) (floatOfInt .f64 (p0.2 - p3.2)) (floatOfInt .f64 (p0.1 - p3.1)) (floatOfInt .f64 (p2.2 - p3.2))) (bth (floatOfInt .f64 (p2.1 - p3.1)) (floatOfInt .f64 (p2.1 - p3.1)) (floatOfInt .f64 (p2.2 - p3.2)) (floatOfInt .f64 (p2.2 - p3.2))) (bth (floatOfInt .f64 (p0.1 - p3.1)) (floatOfInt .f64 (p1.2 - p3.2)) (floatOfInt .f64 (p1.1 - p3.1)) (floatOfInt .f64 (p0.2 - p3.2)))) 4386506037058863104) else 2))])
@[simp] theorem iFInCircleC_at (a b : Int) (c d : Int) (e f : Int) (g h : Int) : iFInCircleC [.agg [.lit (.int .i64 a), .lit (.int .i64 b)], .agg [.lit (.int .i64 c), .lit (.int .i64 d)], .agg [.lit (.int .i64 e), .lit (.int .i64 f)], .agg [.lit (.int .i64 g), .lit (.int .i64 h)]] = (True, [.lit (.float .f64 (if c2 (a, b) ∧ c2 (c, d) ∧ c2 (e, f) ∧ c2 (g, h) then (thr (bth (floatOfInt .f64 (a - g)) (floatOfInt .f64 (a - g)) (floatOfInt .f64 (b - h)) (floatOfInt .f64 (b - h))) (crs (floatOfInt .f64 (c - g)) (floatOfInt .f64 (f - h)) (floatOfInt .f64 (e - g)) (floatOfInt .f64 (d - h))) (bth (floatOfInt .f64 (c - g)) (floatOfInt .f64 (c - g)) (floatOfInt .f64 (d - h)) (floatOfInt .f64 (d - h))) (crs (floatOfInt .f64 (e - g)) (floatOfInt .f64 (b - h)) (floatOfInt .f64 (a - g)) (floatOfInt .f64 (f - h))) (bth (floatOfInt .f64 (e - g)) (floatOfInt .f64 (e - g)) (floatOfInt .f64 (f - h)) (floatOfInt .f64 (f - h))) (crs (floatOfInt .f64 (a - g)) (floatOfInt .f64 (d - h)) (floatOfInt .f64 (c - g)) (floatOfInt .f64 (b - h)))) else 0)), .lit (.float .f64 (if c2 (a, b) ∧ c2 (c, d) ∧ c2 (e, f) ∧ c2 (g, h) then (fv .mul .f64 (thr (bth (floatOfInt .f64 (a - g)) (floatOfInt .f64 (a - g)) (floatOfInt .f64 (b - h)) (floatOfInt .f64 (b - h))) (bth (floatOfInt .f64 (c - g)) (floatOfInt .f64 (f - h)) (floatOfInt .f64 (e - g)) (floatOfInt .f64 (d - h))) (bth (floatOfInt .f64 (c - g)) (floatOfInt .f64 (c - g)) (floatOfInt .f64 (d - h)) (floatOfInt .f64 (d - h))) (bth (floatOfInt .f64 (e - g)) (floatOfInt .f64 (b - h)) (floatOfInt .f64 (a - g)) (floatOfInt .f64 (f - h))) (bth (floatOfInt .f64 (e - g)) (floatOfInt .f64 (e - g)) (floatOfInt .f64 (f - h)) (floatOfInt .f64 (f - h))) (bth (floatOfInt .f64 (a - g)) (floatOfInt .f64 (d - h)) (floatOfInt .f64 (c - g)) (floatOfInt .f64 (b - h)))) 4386506037058863104) else 0)), .lit (.int .i64 (if c2 (a, b) ∧ c2 (c, d) ∧ c2 (e, f) ∧ c2 (g, h) then sur (thr (bth (floatOfInt .f64 (a - g)) (floatOfInt .f64 (a - g)) (floatOfInt .f64 (b - h)) (floatOfInt .f64 (b - h))) (crs (floatOfInt .f64 (c - g)) (floatOfInt .f64 (f - h)) (floatOfInt .f64 (e - g)) (floatOfInt .f64 (d - h))) (bth (floatOfInt .f64 (c - g)) (floatOfInt .f64 (c - g)) (floatOfInt .f64 (d - h)) (floatOfInt .f64 (d - h))) (crs (floatOfInt .f64 (e - g)) (floatOfInt .f64 (b - h)) (floatOfInt .f64 (a - g)) (floatOfInt .f64 (f - h))) (bth (floatOfInt .f64 (e - g)) (floatOfInt .f64 (e - g)) (floatOfInt .f64 (f - h)) (floatOfInt .f64 (f - h))) (crs (floatOfInt .f64 (a - g)) (floatOfInt .f64 (d - h)) (floatOfInt .f64 (c - g)) (floatOfInt .f64 (b - h)))) (fv .mul .f64 (thr (bth (floatOfInt .f64 (a - g)) (floatOfInt .f64 (a - g)) (floatOfInt .f64 (b - h)) (floatOfInt .f64 (b - h))) (bth (floatOfInt .f64 (c - g)) (floatOfInt .f64 (f - h)) (floatOfInt .f64 (e - g)) (floatOfInt .f64 (d - h))) (bth (floatOfInt .f64 (c - g)) (floatOfInt .f64 (c - g)) (floatOfInt .f64 (d - h)) (floatOfInt .f64 (d - h))) (bth (floatOfInt .f64 (e - g)) (floatOfInt .f64 (b - h)) (floatOfInt .f64 (a - g)) (floatOfInt .f64 (f - h))) (bth (floatOfInt .f64 (e - g)) (floatOfInt .f64 (e - g)) (floatOfInt .f64 (f - h)) (floatOfInt .f64 (f - h))) (bth (floatOfInt .f64 (a - g)) (floatOfInt .f64 (d - h)) (floatOfInt .f64 (c - g)) (floatOfInt .f64 (b - h)))) 4386506037058863104) else 2))]) := ct4_at (a, b) (c, d) (e, f) (g, h)
noncomputable def iFInCircleTb : List (FuncId × Ct) := [(50, .data tame2C), (58, .data rowF2C), (59, .data pairF2C), (61, .data iSureC)]
theorem iFInCircleTb_ok {N : NR} : TbOK N Try.prog (tbl iFInCircleTb) := tbl_cons (c := .data tame2C) tame2_spec tame2_ok (tbl_cons (c := .data rowF2C) rowF2_spec rowF2_ok (tbl_cons (c := .data pairF2C) pairF2_spec pairF2_ok (tbl_cons (c := .data iSureC) iSure_spec iSure_ok tbl_nil)))
@[simp] theorem iFInCircleTb1 : tbl iFInCircleTb 50 = some (.data tame2C) := rfl
@[simp] theorem iFInCircleTb2 : tbl iFInCircleTb 58 = some (.data rowF2C) := rfl
@[simp] theorem iFInCircleTb3 : tbl iFInCircleTb 59 = some (.data pairF2C) := rfl
@[simp] theorem iFInCircleTb4 : tbl iFInCircleTb 61 = some (.data iSureC) := rfl
set_option maxRecDepth 100000 in
set_option maxHeartbeats 4000000 in
theorem iFInCircle_spec {N : NR} : SpecD N Try.prog 22 iFInCircleC := by
  refine rd4 (mf := fun f => f == fnp || f == rcel 4 12 || f == rcel 4 13 || f == rcel 4 14) iFInCircleTb_ok (fn := Try.f22) (by kernel_rfl) rfl (by kernel_rfl) (by kernel_rfl) ?_
  rintro ⟨a, b⟩ ⟨c, d⟩ ⟨e, f⟩ ⟨g, h⟩ hp
  have hp : True := hp
  show awp _ _ _ _ (start _ ([.agg [.lit (.int .i64 a), .lit (.int .i64 b)], .agg [.lit (.int .i64 c), .lit (.int .i64 d)], .agg [.lit (.int .i64 e), .lit (.int .i64 f)], .agg [.lit (.int .i64 g), .lit (.int .i64 h)]].map .dat) []) (endK _ _ _ (([.lit (.float .f64 (if c2 (a, b) ∧ c2 (c, d) ∧ c2 (e, f) ∧ c2 (g, h) then (thr (bth (floatOfInt .f64 (a - g)) (floatOfInt .f64 (a - g)) (floatOfInt .f64 (b - h)) (floatOfInt .f64 (b - h))) (crs (floatOfInt .f64 (c - g)) (floatOfInt .f64 (f - h)) (floatOfInt .f64 (e - g)) (floatOfInt .f64 (d - h))) (bth (floatOfInt .f64 (c - g)) (floatOfInt .f64 (c - g)) (floatOfInt .f64 (d - h)) (floatOfInt .f64 (d - h))) (crs (floatOfInt .f64 (e - g)) (floatOfInt .f64 (b - h)) (floatOfInt .f64 (a - g)) (floatOfInt .f64 (f - h))) (bth (floatOfInt .f64 (e - g)) (floatOfInt .f64 (e - g)) (floatOfInt .f64 (f - h)) (floatOfInt .f64 (f - h))) (crs (floatOfInt .f64 (a - g)) (floatOfInt .f64 (d - h)) (floatOfInt .f64 (c - g)) (floatOfInt .f64 (b - h)))) else 0)), .lit (.float .f64 (if c2 (a, b) ∧ c2 (c, d) ∧ c2 (e, f) ∧ c2 (g, h) then (fv .mul .f64 (thr (bth (floatOfInt .f64 (a - g)) (floatOfInt .f64 (a - g)) (floatOfInt .f64 (b - h)) (floatOfInt .f64 (b - h))) (bth (floatOfInt .f64 (c - g)) (floatOfInt .f64 (f - h)) (floatOfInt .f64 (e - g)) (floatOfInt .f64 (d - h))) (bth (floatOfInt .f64 (c - g)) (floatOfInt .f64 (c - g)) (floatOfInt .f64 (d - h)) (floatOfInt .f64 (d - h))) (bth (floatOfInt .f64 (e - g)) (floatOfInt .f64 (b - h)) (floatOfInt .f64 (a - g)) (floatOfInt .f64 (f - h))) (bth (floatOfInt .f64 (e - g)) (floatOfInt .f64 (e - g)) (floatOfInt .f64 (f - h)) (floatOfInt .f64 (f - h))) (bth (floatOfInt .f64 (a - g)) (floatOfInt .f64 (d - h)) (floatOfInt .f64 (c - g)) (floatOfInt .f64 (b - h)))) 4386506037058863104) else 0)), .lit (.int .i64 (if c2 (a, b) ∧ c2 (c, d) ∧ c2 (e, f) ∧ c2 (g, h) then sur (thr (bth (floatOfInt .f64 (a - g)) (floatOfInt .f64 (a - g)) (floatOfInt .f64 (b - h)) (floatOfInt .f64 (b - h))) (crs (floatOfInt .f64 (c - g)) (floatOfInt .f64 (f - h)) (floatOfInt .f64 (e - g)) (floatOfInt .f64 (d - h))) (bth (floatOfInt .f64 (c - g)) (floatOfInt .f64 (c - g)) (floatOfInt .f64 (d - h)) (floatOfInt .f64 (d - h))) (crs (floatOfInt .f64 (e - g)) (floatOfInt .f64 (b - h)) (floatOfInt .f64 (a - g)) (floatOfInt .f64 (f - h))) (bth (floatOfInt .f64 (e - g)) (floatOfInt .f64 (e - g)) (floatOfInt .f64 (f - h)) (floatOfInt .f64 (f - h))) (crs (floatOfInt .f64 (a - g)) (floatOfInt .f64 (d - h)) (floatOfInt .f64 (c - g)) (floatOfInt .f64 (b - h)))) (fv .mul .f64 (thr (bth (floatOfInt .f64 (a - g)) (floatOfInt .f64 (a - g)) (floatOfInt .f64 (b - h)) (floatOfInt .f64 (b - h))) (bth (floatOfInt .f64 (c - g)) (floatOfInt .f64 (f - h)) (floatOfInt .f64 (e - g)) (floatOfInt .f64 (d - h))) (bth (floatOfInt .f64 (c - g)) (floatOfInt .f64 (c - g)) (floatOfInt .f64 (d - h)) (floatOfInt .f64 (d - h))) (bth (floatOfInt .f64 (e - g)) (floatOfInt .f64 (b - h)) (floatOfInt .f64 (a - g)) (floatOfInt .f64 (f - h))) (bth (floatOfInt .f64 (e - g)) (floatOfInt .f64 (e - g)) (floatOfInt .f64 (f - h)) (floatOfInt .f64 (f - h))) (bth (floatOfInt .f64 (a - g)) (floatOfInt .f64 (d - h)) (floatOfInt .f64 (c - g)) (floatOfInt .f64 (b - h)))) 4386506037058863104) else 2))]).map .dat) [])
  by_cases hok : c2 (a, b) ∧ c2 (c, d) ∧ c2 (e, f) ∧ c2 (g, h)
  · have hoks := hok
    simp only [if_pos hok]
    obtain ⟨ok1, ok2, ok3, ok4⟩ := hok
    have d00 : dm (a - g) := dm_sub (ok1.1) (ok4.1)
    have d01 : dm (b - h) := dm_sub (ok1.2) (ok4.2)
    have d10 : dm (c - g) := dm_sub (ok2.1) (ok4.1)
    have d11 : dm (d - h) := dm_sub (ok2.2) (ok4.2)
    have d20 : dm (e - g) := dm_sub (ok3.1) (ok4.1)
    have d21 : dm (f - h) := dm_sub (ok3.2) (ok4.2)
    have f00 := dm_fin d00
    have f01 := dm_fin d01
    have f10 := dm_fin d10
    have f11 := dm_fin d11
    have f20 := dm_fin d20
    have f21 := dm_fin d21
    have cc0 : rowF2C [.agg [.lit (.int .i64 a), .lit (.int .i64 b)], .ptr (.agg [.lit (.int .i64 g), .lit (.int .i64 h)])] = (True, [.agg [.lit (.float .f64 (floatOfInt .f64 (a - g))), .lit (.float .f64 (floatOfInt .f64 (b - h))), .lit (.float .f64 (bth (floatOfInt .f64 (a - g)) (floatOfInt .f64 (a - g)) (floatOfInt .f64 (b - h)) (floatOfInt .f64 (b - h))))]]) := by rw [rowF2C_at, eq_true (show c2 (a, b) ∧ c2 (g, h) from ⟨ok1, ok4⟩)]
    have cc1 : rowF2C [.agg [.lit (.int .i64 c), .lit (.int .i64 d)], .ptr (.agg [.lit (.int .i64 g), .lit (.int .i64 h)])] = (True, [.agg [.lit (.float .f64 (floatOfInt .f64 (c - g))), .lit (.float .f64 (floatOfInt .f64 (d - h))), .lit (.float .f64 (bth (floatOfInt .f64 (c - g)) (floatOfInt .f64 (c - g)) (floatOfInt .f64 (d - h)) (floatOfInt .f64 (d - h))))]]) := by rw [rowF2C_at, eq_true (show c2 (c, d) ∧ c2 (g, h) from ⟨ok2, ok4⟩)]
    have cc2 : rowF2C [.agg [.lit (.int .i64 e), .lit (.int .i64 f)], .ptr (.agg [.lit (.int .i64 g), .lit (.int .i64 h)])] = (True, [.agg [.lit (.float .f64 (floatOfInt .f64 (e - g))), .lit (.float .f64 (floatOfInt .f64 (f - h))), .lit (.float .f64 (bth (floatOfInt .f64 (e - g)) (floatOfInt .f64 (e - g)) (floatOfInt .f64 (f - h)) (floatOfInt .f64 (f - h))))]]) := by rw [rowF2C_at, eq_true (show c2 (e, f) ∧ c2 (g, h) from ⟨ok3, ok4⟩)]
    generalize hx00 : floatOfInt .f64 (a - g) = x00 at f00 cc0 ⊢
    generalize hx01 : floatOfInt .f64 (b - h) = x01 at f01 cc0 ⊢
    generalize hx10 : floatOfInt .f64 (c - g) = x10 at f10 cc1 ⊢
    generalize hx11 : floatOfInt .f64 (d - h) = x11 at f11 cc1 ⊢
    generalize hx20 : floatOfInt .f64 (e - g) = x20 at f20 cc2 ⊢
    generalize hx21 : floatOfInt .f64 (f - h) = x21 at f21 cc2 ⊢
    have cp0 : pairF2C [.agg [.lit (.float .f64 x10), .lit (.float .f64 x11), .lit (.float .f64 (bth x10 x10 x11 x11))], .agg [.lit (.float .f64 x20), .lit (.float .f64 x21), .lit (.float .f64 (bth x20 x20 x21 x21))]] = (True, [.lit (.float .f64 (crs x10 x21 x20 x11)), .lit (.float .f64 (bth x10 x21 x20 x11))]) := by rw [pairF2C_at, eq_true (show Fin 100 x10 ∧ Fin 100 x11 ∧ Fin 100 x20 ∧ Fin 100 x21 from ⟨f10, f11, f20, f21⟩)]
    have cp1 : pairF2C [.agg [.lit (.float .f64 x20), .lit (.float .f64 x21), .lit (.float .f64 (bth x20 x20 x21 x21))], .agg [.lit (.float .f64 x00), .lit (.float .f64 x01), .lit (.float .f64 (bth x00 x00 x01 x01))]] = (True, [.lit (.float .f64 (crs x20 x01 x00 x21)), .lit (.float .f64 (bth x20 x01 x00 x21))]) := by rw [pairF2C_at, eq_true (show Fin 100 x20 ∧ Fin 100 x21 ∧ Fin 100 x00 ∧ Fin 100 x01 from ⟨f20, f21, f00, f01⟩)]
    have cp2 : pairF2C [.agg [.lit (.float .f64 x00), .lit (.float .f64 x01), .lit (.float .f64 (bth x00 x00 x01 x01))], .agg [.lit (.float .f64 x10), .lit (.float .f64 x11), .lit (.float .f64 (bth x10 x10 x11 x11))]] = (True, [.lit (.float .f64 (crs x00 x11 x10 x01)), .lit (.float .f64 (bth x00 x11 x10 x01))]) := by rw [pairF2C_at, eq_true (show Fin 100 x00 ∧ Fin 100 x01 ∧ Fin 100 x10 ∧ Fin 100 x11 from ⟨f00, f01, f10, f11⟩)]
    obtain ⟨oc0, fc0⟩ := crs_fin f10 f21 f20 f11
    obtain ⟨ob0, fb0⟩ := bth_fin f10 f21 f20 f11
    have fl0 := (bth_fin f00 f00 f01 f01).2
    have fr0 := fl0
    obtain ⟨oc1, fc1⟩ := crs_fin f20 f01 f00 f21
    obtain ⟨ob1, fb1⟩ := bth_fin f20 f01 f00 f21
    have fl1 := (bth_fin f10 f10 f11 f11).2
    have fr1 := fl1
    obtain ⟨oc2, fc2⟩ := crs_fin f00 f11 f10 f01
    obtain ⟨ob2, fb2⟩ := bth_fin f00 f11 f10 f01
    have fl2 := (bth_fin f20 f20 f21 f21).2
    have fr2 := fl2
    obtain ⟨⟨p1, p2, p3, p4, p5⟩, fd⟩ := thr_fin fl0 fc0 fl1 fc1 fl2 fc2
    obtain ⟨⟨q1, q2, q3, q4, q5⟩, fe⟩ := thr_fin fr0 fb0 fr1 fb1 fr2 fb2
    obtain ⟨r1, _⟩ := mul_fin fe fin_k1 (by omega) (by omega)
    generalize hc0 : crs x10 x21 x20 x11 = v0 at *
    generalize hb0 : bth x10 x21 x20 x11 = w0 at *
    generalize hc1 : crs x20 x01 x00 x21 = v1 at *
    generalize hb1 : bth x20 x01 x00 x21 = w1 at *
    generalize hc2 : crs x00 x11 x10 x01 = v2 at *
    generalize hb2 : bth x00 x11 x10 x01 = w2 at *
    unfold thr at r1
    simp [-D.isLit, -rowF2C_at, -pairF2C_at, Try.f22, ok1, ok2, ok3, ok4, cc0, cc1, cc2, cp0, cp1, cp2, p1, p2, p3, p4, p5, q1, q2, q3, q4, q5, r1, thr]
  · have hb : decide (c2 (a, b) ∧ c2 (c, d) ∧ c2 (e, f) ∧ c2 (g, h)) = false := decide_eq_false hok
    simp only [if_neg hok]
    simp [-D.isLit, -Bool.decide_and, Try.f22, hb]
theorem iFInCircle_ok : callable Try.prog 22 = true := by kernel_rfl
noncomputable def sFInCircleC := ct4 EI2 EI2 EI2 EI2 (fun p0 p1 p2 p3 => True) (fun p0 p1 p2 p3 => [.lit (.float .f64 (if c2 (p0.1, p0.2) ∧ c2 (p1.1, p1.2) ∧ c2 (p2.1, p2.2) ∧ c2 (p3.1, p3.2) then (thr (bth (floatOfInt .f64 (p0.1 - p3.1)) (floatOfInt .f64 (p0.1 - p3.1)) (floatOfInt .f64 (p0.2 - p3.2)) (floatOfInt .f64 (p0.2 - p3.2))) (crs (floatOfInt .f64 (p1.1 - p3.1)) (floatOfInt .f64 (p2.2 - p3.2)) (floatOfInt .f64 (p2.1 - p3.1)) (floatOfInt .f64 (p1.2 - p3.2))) (bth (floatOfInt .f64 (p1.1 - p3.1)) (floatOfInt .f64 (p1.1 - p3.1)) (floatOfInt .f64 (p1.2 - p3.2)) (floatOfInt .f64 (p1.2 - p3.2))) (crs (floatOfInt .f64 (p2.1 - p3.1)) (floatOfInt .f64 (p0.2 - p3.2)) (floatOfInt .f64 (p0.1 - p3.1)) (floatOfInt .f64 (p2.2 - p3.2))) (bth (floatOfInt .f64 (p2.1 - p3.1)) (floatOfInt .f64 (p2.1 - p3.1)) (floatOfInt .f64 (p2.2 - p3.2)) (floatOfInt .f64 (p2.2 - p3.2))) (crs (floatOfInt .f64 (p0.1 - p3.1)) (floatOfInt .f64 (p1.2 - p3.2)) (floatOfInt .f64 (p1.1 - p3.1)) (floatOfInt .f64 (p0.2 - p3.2)))) else 0)), .lit (.float .f64 (if c2 (p0.1, p0.2) ∧ c2 (p1.1, p1.2) ∧ c2 (p2.1, p2.2) ∧ c2 (p3.1, p3.2) then (fv .mul .f64 (thr (bth (floatOfInt .f64 (p0.1 - p3.1)) (floatOfInt .f64 (p0.1 - p3.1)) (floatOfInt .f64 (p0.2 - p3.2)) (floatOfInt .f64 (p0.2 - p3.2))) (bth (floatOfInt .f64 (p1.1 - p3.1)) (floatOfInt .f64 (p2.2 - p3.2)) (floatOfInt .f64 (p2.1 - p3.1)) (floatOfInt .f64 (p1.2 - p3.2))) (bth (floatOfInt .f64 (p1.1 - p3.1)) (floatOfInt .f64 (p1.1 - p3.1)) (floatOfInt .f64 (p1.2 - p3.2)) (floatOfInt .f64 (p1.2 - p3.2))) (bth (floatOfInt .f64 (p2.1 - p3.1)) (floatOfInt .f64 (p0.2 - p3.2)) (floatOfInt .f64 (p0.1 - p3.1)) (floatOfInt .f64 (p2.2 - p3.2))) (bth (floatOfInt .f64 (p2.1 - p3.1)) (floatOfInt .f64 (p2.1 - p3.1)) (floatOfInt .f64 (p2.2 - p3.2)) (floatOfInt .f64 (p2.2 - p3.2))) (bth (floatOfInt .f64 (p0.1 - p3.1)) (floatOfInt .f64 (p1.2 - p3.2)) (floatOfInt .f64 (p1.1 - p3.1)) (floatOfInt .f64 (p0.2 - p3.2)))) 4386506037058863104) else 0)), .lit (.int .i64 (if c2 (p0.1, p0.2) ∧ c2 (p1.1, p1.2) ∧ c2 (p2.1, p2.2) ∧ c2 (p3.1, p3.2) then sur (thr (bth (floatOfInt .f64 (p0.1 - p3.1)) (floatOfInt .f64 (p0.1 - p3.1)) (floatOfInt .f64 (p0.2 - p3.2)) (floatOfInt .f64 (p0.2 - p3.2))) (crs (floatOfInt .f64 (p1.1 - p3.1)) (floatOfInt .f64 (p2.2 - p3.2)) (floatOfInt .f64 (p2.1 - p3.1)) (floatOfInt .f64 (p1.2 - p3.2))) (bth (floatOfInt .f64 (p1.1 - p3.1)) (floatOfInt .f64 (p1.1 - p3.1)) (floatOfInt .f64 (p1.2 - p3.2)) (floatOfInt .f64 (p1.2 - p3.2))) (crs (floatOfInt .f64 (p2.1 - p3.1)) (floatOfInt .f64 (p0.2 - p3.2)) (floatOfInt .f64 (p0.1 - p3.1)) (floatOfInt .f64 (p2.2 - p3.2))) (bth (floatOfInt .f64 (p2.1 - p3.1)) (floatOfInt .f64 (p2.1 - p3.1)) (floatOfInt .f64 (p2.2 - p3.2)) (floatOfInt .f64 (p2.2 - p3.2))) (crs (floatOfInt .f64 (p0.1 - p3.1)) (floatOfInt .f64 (p1.2 - p3.2)) (floatOfInt .f64 (p1.1 - p3.1)) (floatOfInt .f64 (p0.2 - p3.2)))) (fv .mul .f64 (thr (bth (floatOfInt .f64 (p0.1 - p3.1)) (floatOfInt .f64 (p0.1 - p3.1)) (floatOfInt .f64 (p0.2 - p3.2)) (floatOfInt .f64 (p0.2 - p3.2))) (bth (floatOfInt .f64 (p1.1 - p3.1)) (floatOfInt .f64 (p2.2 - p3.2)) (floatOfInt .f64 (p2.1 - p3.1)) (floatOfInt .f64 (p1.2 - p3.2))) (bth (floatOfInt .f64 (p1.1 - p3.1)) (floatOfInt .f64 (p1.1 - p3.1)) (floatOfInt .f64 (p1.2 - p3.2)) (floatOfInt .f64 (p1.2 - p3.2))) (bth (floatOfInt .f64 (p2.1 - p3.1)) (floatOfInt .f64 (p0.2 - p3.2)) (floatOfInt .f64 (p0.1 - p3.1)) (floatOfInt .f64 (p2.2 - p3.2))) (bth (floatOfInt .f64 (p2.1 - p3.1)) (floatOfInt .f64 (p2.1 - p3.1)) (floatOfInt .f64 (p2.2 - p3.2)) (floatOfInt .f64 (p2.2 - p3.2))) (bth (floatOfInt .f64 (p0.1 - p3.1)) (floatOfInt .f64 (p1.2 - p3.2)) (floatOfInt .f64 (p1.1 - p3.1)) (floatOfInt .f64 (p0.2 - p3.2)))) 4386506037058863104) else 2))])
@[simp] theorem sFInCircleC_at (a b : Int) (c d : Int) (e f : Int) (g h : Int) : sFInCircleC [.agg [.lit (.int .i64 a), .lit (.int .i64 b)], .agg [.lit (.int .i64 c), .lit (.int .i64 d)], .agg [.lit (.int .i64 e), .lit (.int .i64 f)], .agg [.lit (.int .i64 g), .lit (.int .i64 h)]] = (True, [.lit (.float .f64 (if c2 (a, b) ∧ c2 (c, d) ∧ c2 (e, f) ∧ c2 (g, h) then (thr (bth (floatOfInt .f64 (a - g)) (floatOfInt .f64 (a - g)) (floatOfInt .f64 (b - h)) (floatOfInt .f64 (b - h))) (crs (floatOfInt .f64 (c - g)) (floatOfInt .f64 (f - h)) (floatOfInt .f64 (e - g)) (floatOfInt .f64 (d - h))) (bth (floatOfInt .f64 (c - g)) (floatOfInt .f64 (c - g)) (floatOfInt .f64 (d - h)) (floatOfInt .f64 (d - h))) (crs (floatOfInt .f64 (e - g)) (floatOfInt .f64 (b - h)) (floatOfInt .f64 (a - g)) (floatOfInt .f64 (f - h))) (bth (floatOfInt .f64 (e - g)) (floatOfInt .f64 (e - g)) (floatOfInt .f64 (f - h)) (floatOfInt .f64 (f - h))) (crs (floatOfInt .f64 (a - g)) (floatOfInt .f64 (d - h)) (floatOfInt .f64 (c - g)) (floatOfInt .f64 (b - h)))) else 0)), .lit (.float .f64 (if c2 (a, b) ∧ c2 (c, d) ∧ c2 (e, f) ∧ c2 (g, h) then (fv .mul .f64 (thr (bth (floatOfInt .f64 (a - g)) (floatOfInt .f64 (a - g)) (floatOfInt .f64 (b - h)) (floatOfInt .f64 (b - h))) (bth (floatOfInt .f64 (c - g)) (floatOfInt .f64 (f - h)) (floatOfInt .f64 (e - g)) (floatOfInt .f64 (d - h))) (bth (floatOfInt .f64 (c - g)) (floatOfInt .f64 (c - g)) (floatOfInt .f64 (d - h)) (floatOfInt .f64 (d - h))) (bth (floatOfInt .f64 (e - g)) (floatOfInt .f64 (b - h)) (floatOfInt .f64 (a - g)) (floatOfInt .f64 (f - h))) (bth (floatOfInt .f64 (e - g)) (floatOfInt .f64 (e - g)) (floatOfInt .f64 (f - h)) (floatOfInt .f64 (f - h))) (bth (floatOfInt .f64 (a - g)) (floatOfInt .f64 (d - h)) (floatOfInt .f64 (c - g)) (floatOfInt .f64 (b - h)))) 4386506037058863104) else 0)), .lit (.int .i64 (if c2 (a, b) ∧ c2 (c, d) ∧ c2 (e, f) ∧ c2 (g, h) then sur (thr (bth (floatOfInt .f64 (a - g)) (floatOfInt .f64 (a - g)) (floatOfInt .f64 (b - h)) (floatOfInt .f64 (b - h))) (crs (floatOfInt .f64 (c - g)) (floatOfInt .f64 (f - h)) (floatOfInt .f64 (e - g)) (floatOfInt .f64 (d - h))) (bth (floatOfInt .f64 (c - g)) (floatOfInt .f64 (c - g)) (floatOfInt .f64 (d - h)) (floatOfInt .f64 (d - h))) (crs (floatOfInt .f64 (e - g)) (floatOfInt .f64 (b - h)) (floatOfInt .f64 (a - g)) (floatOfInt .f64 (f - h))) (bth (floatOfInt .f64 (e - g)) (floatOfInt .f64 (e - g)) (floatOfInt .f64 (f - h)) (floatOfInt .f64 (f - h))) (crs (floatOfInt .f64 (a - g)) (floatOfInt .f64 (d - h)) (floatOfInt .f64 (c - g)) (floatOfInt .f64 (b - h)))) (fv .mul .f64 (thr (bth (floatOfInt .f64 (a - g)) (floatOfInt .f64 (a - g)) (floatOfInt .f64 (b - h)) (floatOfInt .f64 (b - h))) (bth (floatOfInt .f64 (c - g)) (floatOfInt .f64 (f - h)) (floatOfInt .f64 (e - g)) (floatOfInt .f64 (d - h))) (bth (floatOfInt .f64 (c - g)) (floatOfInt .f64 (c - g)) (floatOfInt .f64 (d - h)) (floatOfInt .f64 (d - h))) (bth (floatOfInt .f64 (e - g)) (floatOfInt .f64 (b - h)) (floatOfInt .f64 (a - g)) (floatOfInt .f64 (f - h))) (bth (floatOfInt .f64 (e - g)) (floatOfInt .f64 (e - g)) (floatOfInt .f64 (f - h)) (floatOfInt .f64 (f - h))) (bth (floatOfInt .f64 (a - g)) (floatOfInt .f64 (d - h)) (floatOfInt .f64 (c - g)) (floatOfInt .f64 (b - h)))) 4386506037058863104) else 2))]) := ct4_at (a, b) (c, d) (e, f) (g, h)
noncomputable def sFInCircleTb : List (FuncId × Ct) := [(46, .data l2Tame2C), (56, .data sCrossC), (54, .data sBothC), (55, .data thrC), (57, .data sSureC)]
theorem sFInCircleTb_ok : TbOK NF Try.prog (tbl sFInCircleTb) := tbl_cons (c := .data l2Tame2C) l2Tame2_spec l2Tame2_ok (tbl_cons (c := .data sCrossC) sCross_spec sCross_ok (tbl_cons (c := .data sBothC) sBoth_spec sBoth_ok (tbl_cons (c := .data thrC) thr_spec thr_ok (tbl_cons (c := .data sSureC) sSure_spec sSure_ok tbl_nil))))
@[simp] theorem sFInCircleTb1 : tbl sFInCircleTb 46 = some (.data l2Tame2C) := rfl
@[simp] theorem sFInCircleTb2 : tbl sFInCircleTb 56 = some (.data sCrossC) := rfl
@[simp] theorem sFInCircleTb3 : tbl sFInCircleTb 54 = some (.data sBothC) := rfl
@[simp] theorem sFInCircleTb4 : tbl sFInCircleTb 55 = some (.data thrC) := rfl
@[simp] theorem sFInCircleTb5 : tbl sFInCircleTb 57 = some (.data sSureC) := rfl
set_option maxRecDepth 100000 in
set_option maxHeartbeats 4000000 in
theorem sFInCircle_spec : SpecD NF Try.prog 21 sFInCircleC := by
  refine rd4 (mf := fun f => false) sFInCircleTb_ok (fn := Try.f21) (by kernel_rfl) rfl (by kernel_rfl) (by kernel_rfl) ?_
  rintro ⟨a, b⟩ ⟨c, d⟩ ⟨e, f⟩ ⟨g, h⟩ hp
  have hp : True := hp
  show awp _ _ _ _ (start _ ([.agg [.lit (.int .i64 a), .lit (.int .i64 b)], .agg [.lit (.int .i64 c), .lit (.int .i64 d)], .agg [.lit (.int .i64 e), .lit (.int .i64 f)], .agg [.lit (.int .i64 g), .lit (.int .i64 h)]].map .dat) []) (endK _ _ _ (([.lit (.float .f64 (if c2 (a, b) ∧ c2 (c, d) ∧ c2 (e, f) ∧ c2 (g, h) then (thr (bth (floatOfInt .f64 (a - g)) (floatOfInt .f64 (a - g)) (floatOfInt .f64 (b - h)) (floatOfInt .f64 (b - h))) (crs (floatOfInt .f64 (c - g)) (floatOfInt .f64 (f - h)) (floatOfInt .f64 (e - g)) (floatOfInt .f64 (d - h))) (bth (floatOfInt .f64 (c - g)) (floatOfInt .f64 (c - g)) (floatOfInt .f64 (d - h)) (floatOfInt .f64 (d - h))) (crs (floatOfInt .f64 (e - g)) (floatOfInt .f64 (b - h)) (floatOfInt .f64 (a - g)) (floatOfInt .f64 (f - h))) (bth (floatOfInt .f64 (e - g)) (floatOfInt .f64 (e - g)) (floatOfInt .f64 (f - h)) (floatOfInt .f64 (f - h))) (crs (floatOfInt .f64 (a - g)) (floatOfInt .f64 (d - h)) (floatOfInt .f64 (c - g)) (floatOfInt .f64 (b - h)))) else 0)), .lit (.float .f64 (if c2 (a, b) ∧ c2 (c, d) ∧ c2 (e, f) ∧ c2 (g, h) then (fv .mul .f64 (thr (bth (floatOfInt .f64 (a - g)) (floatOfInt .f64 (a - g)) (floatOfInt .f64 (b - h)) (floatOfInt .f64 (b - h))) (bth (floatOfInt .f64 (c - g)) (floatOfInt .f64 (f - h)) (floatOfInt .f64 (e - g)) (floatOfInt .f64 (d - h))) (bth (floatOfInt .f64 (c - g)) (floatOfInt .f64 (c - g)) (floatOfInt .f64 (d - h)) (floatOfInt .f64 (d - h))) (bth (floatOfInt .f64 (e - g)) (floatOfInt .f64 (b - h)) (floatOfInt .f64 (a - g)) (floatOfInt .f64 (f - h))) (bth (floatOfInt .f64 (e - g)) (floatOfInt .f64 (e - g)) (floatOfInt .f64 (f - h)) (floatOfInt .f64 (f - h))) (bth (floatOfInt .f64 (a - g)) (floatOfInt .f64 (d - h)) (floatOfInt .f64 (c - g)) (floatOfInt .f64 (b - h)))) 4386506037058863104) else 0)), .lit (.int .i64 (if c2 (a, b) ∧ c2 (c, d) ∧ c2 (e, f) ∧ c2 (g, h) then sur (thr (bth (floatOfInt .f64 (a - g)) (floatOfInt .f64 (a - g)) (floatOfInt .f64 (b - h)) (floatOfInt .f64 (b - h))) (crs (floatOfInt .f64 (c - g)) (floatOfInt .f64 (f - h)) (floatOfInt .f64 (e - g)) (floatOfInt .f64 (d - h))) (bth (floatOfInt .f64 (c - g)) (floatOfInt .f64 (c - g)) (floatOfInt .f64 (d - h)) (floatOfInt .f64 (d - h))) (crs (floatOfInt .f64 (e - g)) (floatOfInt .f64 (b - h)) (floatOfInt .f64 (a - g)) (floatOfInt .f64 (f - h))) (bth (floatOfInt .f64 (e - g)) (floatOfInt .f64 (e - g)) (floatOfInt .f64 (f - h)) (floatOfInt .f64 (f - h))) (crs (floatOfInt .f64 (a - g)) (floatOfInt .f64 (d - h)) (floatOfInt .f64 (c - g)) (floatOfInt .f64 (b - h)))) (fv .mul .f64 (thr (bth (floatOfInt .f64 (a - g)) (floatOfInt .f64 (a - g)) (floatOfInt .f64 (b - h)) (floatOfInt .f64 (b - h))) (bth (floatOfInt .f64 (c - g)) (floatOfInt .f64 (f - h)) (floatOfInt .f64 (e - g)) (floatOfInt .f64 (d - h))) (bth (floatOfInt .f64 (c - g)) (floatOfInt .f64 (c - g)) (floatOfInt .f64 (d - h)) (floatOfInt .f64 (d - h))) (bth (floatOfInt .f64 (e - g)) (floatOfInt .f64 (b - h)) (floatOfInt .f64 (a - g)) (floatOfInt .f64 (f - h))) (bth (floatOfInt .f64 (e - g)) (floatOfInt .f64 (e - g)) (floatOfInt .f64 (f - h)) (floatOfInt .f64 (f - h))) (bth (floatOfInt .f64 (a - g)) (floatOfInt .f64 (d - h)) (floatOfInt .f64 (c - g)) (floatOfInt .f64 (b - h)))) 4386506037058863104) else 2))]).map .dat) [])
  by_cases hok : c2 (a, b) ∧ c2 (c, d) ∧ c2 (e, f) ∧ c2 (g, h)
  · have hoks := hok
    simp only [if_pos hok]
    obtain ⟨ok1, ok2, ok3, ok4⟩ := hok
    have d00 : dm (a - g) := dm_sub (ok1.1) (ok4.1)
    have d01 : dm (b - h) := dm_sub (ok1.2) (ok4.2)
    have d10 : dm (c - g) := dm_sub (ok2.1) (ok4.1)
    have d11 : dm (d - h) := dm_sub (ok2.2) (ok4.2)
    have d20 : dm (e - g) := dm_sub (ok3.1) (ok4.1)
    have d21 : dm (f - h) := dm_sub (ok3.2) (ok4.2)
    have f00 := dm_fin d00
    have f01 := dm_fin d01
    have f10 := dm_fin d10
    have f11 := dm_fin d11
    have f20 := dm_fin d20
    have f21 := dm_fin d21
    have w00 : IntKind.i64.wrap (a - g) = a - g := i64_id _ (by have := dm_i64 d00; unfold I64 at this; omega) (by have := dm_i64 d00; unfold I64 at this; omega)
    have w01 : IntKind.i64.wrap (b - h) = b - h := i64_id _ (by have := dm_i64 d01; unfold I64 at this; omega) (by have := dm_i64 d01; unfold I64 at this; omega)
    have w10 : IntKind.i64.wrap (c - g) = c - g := i64_id _ (by have := dm_i64 d10; unfold I64 at this; omega) (by have := dm_i64 d10; unfold I64 at this; omega)
    have w11 : IntKind.i64.wrap (d - h) = d - h := i64_id _ (by have := dm_i64 d11; unfold I64 at this; omega) (by have := dm_i64 d11; unfold I64 at this; omega)
    have w20 : IntKind.i64.wrap (e - g) = e - g := i64_id _ (by have := dm_i64 d20; unfold I64 at this; omega) (by have := dm_i64 d20; unfold I64 at this; omega)
    have w21 : IntKind.i64.wrap (f - h) = f - h := i64_id _ (by have := dm_i64 d21; unfold I64 at this; omega) (by have := dm_i64 d21; unfold I64 at this; omega)
    obtain ⟨x00, hx00⟩ : ∃ x, floatOfInt .f64 (a - g) = x := ⟨_, rfl⟩
    rw [hx00] at f00
    obtain ⟨x01, hx01⟩ : ∃ x, floatOfInt .f64 (b - h) = x := ⟨_, rfl⟩
    rw [hx01] at f01
    obtain ⟨x10, hx10⟩ : ∃ x, floatOfInt .f64 (c - g) = x := ⟨_, rfl⟩
    rw [hx10] at f10
    obtain ⟨x11, hx11⟩ : ∃ x, floatOfInt .f64 (d - h) = x := ⟨_, rfl⟩
    rw [hx11] at f11
    obtain ⟨x20, hx20⟩ : ∃ x, floatOfInt .f64 (e - g) = x := ⟨_, rfl⟩
    rw [hx20] at f20
    obtain ⟨x21, hx21⟩ : ∃ x, floatOfInt .f64 (f - h) = x := ⟨_, rfl⟩
    rw [hx21] at f21
    simp only [hx00, hx01, hx10, hx11, hx20, hx21]
    have cx0 : sCrossC [.lit (.float .f64 x10), .lit (.float .f64 x21), .lit (.float .f64 x20), .lit (.float .f64 x11)] = (True, [.lit (.float .f64 (crs x10 x21 x20 x11))]) := by rw [sCrossC_at, eq_true (show Fin 100 x10 ∧ Fin 100 x21 ∧ Fin 100 x20 ∧ Fin 100 x11 from ⟨f10, f21, f20, f11⟩)]
    have cb0 : sBothC [.lit (.float .f64 x10), .lit (.float .f64 x21), .lit (.float .f64 x20), .lit (.float .f64 x11)] = (True, [.lit (.float .f64 (bth x10 x21 x20 x11))]) := by rw [sBothC_at, eq_true (show Fin 100 x10 ∧ Fin 100 x21 ∧ Fin 100 x20 ∧ Fin 100 x11 from ⟨f10, f21, f20, f11⟩)]
    have cl0 : sBothC [.lit (.float .f64 x00), .lit (.float .f64 x00), .lit (.float .f64 x01), .lit (.float .f64 x01)] = (True, [.lit (.float .f64 (bth x00 x00 x01 x01))]) := by rw [sBothC_at, eq_true (show Fin 100 x00 ∧ Fin 100 x00 ∧ Fin 100 x01 ∧ Fin 100 x01 from ⟨f00, f00, f01, f01⟩)]
    have cx1 : sCrossC [.lit (.float .f64 x20), .lit (.float .f64 x01), .lit (.float .f64 x00), .lit (.float .f64 x21)] = (True, [.lit (.float .f64 (crs x20 x01 x00 x21))]) := by rw [sCrossC_at, eq_true (show Fin 100 x20 ∧ Fin 100 x01 ∧ Fin 100 x00 ∧ Fin 100 x21 from ⟨f20, f01, f00, f21⟩)]
    have cb1 : sBothC [.lit (.float .f64 x20), .lit (.float .f64 x01), .lit (.float .f64 x00), .lit (.float .f64 x21)] = (True, [.lit (.float .f64 (bth x20 x01 x00 x21))]) := by rw [sBothC_at, eq_true (show Fin 100 x20 ∧ Fin 100 x01 ∧ Fin 100 x00 ∧ Fin 100 x21 from ⟨f20, f01, f00, f21⟩)]
    have cl1 : sBothC [.lit (.float .f64 x10), .lit (.float .f64 x10), .lit (.float .f64 x11), .lit (.float .f64 x11)] = (True, [.lit (.float .f64 (bth x10 x10 x11 x11))]) := by rw [sBothC_at, eq_true (show Fin 100 x10 ∧ Fin 100 x10 ∧ Fin 100 x11 ∧ Fin 100 x11 from ⟨f10, f10, f11, f11⟩)]
    have cx2 : sCrossC [.lit (.float .f64 x00), .lit (.float .f64 x11), .lit (.float .f64 x10), .lit (.float .f64 x01)] = (True, [.lit (.float .f64 (crs x00 x11 x10 x01))]) := by rw [sCrossC_at, eq_true (show Fin 100 x00 ∧ Fin 100 x11 ∧ Fin 100 x10 ∧ Fin 100 x01 from ⟨f00, f11, f10, f01⟩)]
    have cb2 : sBothC [.lit (.float .f64 x00), .lit (.float .f64 x11), .lit (.float .f64 x10), .lit (.float .f64 x01)] = (True, [.lit (.float .f64 (bth x00 x11 x10 x01))]) := by rw [sBothC_at, eq_true (show Fin 100 x00 ∧ Fin 100 x11 ∧ Fin 100 x10 ∧ Fin 100 x01 from ⟨f00, f11, f10, f01⟩)]
    have cl2 : sBothC [.lit (.float .f64 x20), .lit (.float .f64 x20), .lit (.float .f64 x21), .lit (.float .f64 x21)] = (True, [.lit (.float .f64 (bth x20 x20 x21 x21))]) := by rw [sBothC_at, eq_true (show Fin 100 x20 ∧ Fin 100 x20 ∧ Fin 100 x21 ∧ Fin 100 x21 from ⟨f20, f20, f21, f21⟩)]
    obtain ⟨oc0, fc0⟩ := crs_fin f10 f21 f20 f11
    obtain ⟨ob0, fb0⟩ := bth_fin f10 f21 f20 f11
    have fl0 := (bth_fin f00 f00 f01 f01).2
    have fr0 := fl0
    obtain ⟨oc1, fc1⟩ := crs_fin f20 f01 f00 f21
    obtain ⟨ob1, fb1⟩ := bth_fin f20 f01 f00 f21
    have fl1 := (bth_fin f10 f10 f11 f11).2
    have fr1 := fl1
    obtain ⟨oc2, fc2⟩ := crs_fin f00 f11 f10 f01
    obtain ⟨ob2, fb2⟩ := bth_fin f00 f11 f10 f01
    have fl2 := (bth_fin f20 f20 f21 f21).2
    have fr2 := fl2
    obtain ⟨⟨p1, p2, p3, p4, p5⟩, fd⟩ := thr_fin fl0 fc0 fl1 fc1 fl2 fc2
    obtain ⟨⟨q1, q2, q3, q4, q5⟩, fe⟩ := thr_fin fr0 fb0 fr1 fb1 fr2 fb2
    obtain ⟨r1, _⟩ := mul_fin fe fin_k1 (by omega) (by omega)
    have ct0 : thrC [.lit (.float .f64 (bth x00 x00 x01 x01)), .lit (.float .f64 (crs x10 x21 x20 x11)), .lit (.float .f64 (bth x10 x10 x11 x11)), .lit (.float .f64 (crs x20 x01 x00 x21)), .lit (.float .f64 (bth x20 x20 x21 x21)), .lit (.float .f64 (crs x00 x11 x10 x01))] = (True, [.lit (.float .f64 (thr (bth x00 x00 x01 x01) (crs x10 x21 x20 x11) (bth x10 x10 x11 x11) (crs x20 x01 x00 x21) (bth x20 x20 x21 x21) (crs x00 x11 x10 x01)))]) := by rw [thrC_at, eq_true (show Fin 204 (bth x00 x00 x01 x01) ∧ Fin 204 (crs x10 x21 x20 x11) ∧ Fin 204 (bth x10 x10 x11 x11) ∧ Fin 204 (crs x20 x01 x00 x21) ∧ Fin 204 (bth x20 x20 x21 x21) ∧ Fin 204 (crs x00 x11 x10 x01) from ⟨fl0, fc0, fl1, fc1, fl2, fc2⟩)]
    have ct1 : thrC [.lit (.float .f64 (bth x00 x00 x01 x01)), .lit (.float .f64 (bth x10 x21 x20 x11)), .lit (.float .f64 (bth x10 x10 x11 x11)), .lit (.float .f64 (bth x20 x01 x00 x21)), .lit (.float .f64 (bth x20 x20 x21 x21)), .lit (.float .f64 (bth x00 x11 x10 x01))] = (True, [.lit (.float .f64 (thr (bth x00 x00 x01 x01) (bth x10 x21 x20 x11) (bth x10 x10 x11 x11) (bth x20 x01 x00 x21) (bth x20 x20 x21 x21) (bth x00 x11 x10 x01)))]) := by rw [thrC_at, eq_true (show Fin 204 (bth x00 x00 x01 x01) ∧ Fin 204 (bth x10 x21 x20 x11) ∧ Fin 204 (bth x10 x10 x11 x11) ∧ Fin 204 (bth x20 x01 x00 x21) ∧ Fin 204 (bth x20 x20 x21 x21) ∧ Fin 204 (bth x00 x11 x10 x01) from ⟨fr0, fb0, fr1, fb1, fr2, fb2⟩)]
    simp [-D.isLit, -sCrossC_at, -sBothC_at, -thrC_at, Try.f21, ok1, ok2, ok3, ok4, w00, w01, w10, w11, w20, w21, hx00, hx01, hx10, hx11, hx20, hx21, cx0, cx1, cx2, cb0, cb1, cb2, cl0, cl1, cl2, ct0, ct1, r1]
  · have hb : decide (c2 (a, b) ∧ c2 (c, d) ∧ c2 (e, f) ∧ c2 (g, h)) = false := decide_eq_false hok
    simp only [if_neg hok]
    simp [-D.isLit, -Bool.decide_and, Try.f21, hb]
theorem sFInCircle_ok : callable Try.prog 21 = true := by kernel_rfl
theorem FInCircle_fin (a b c d e f g h : Int) : Fin 500 (if c2 (a, b) ∧ c2 (c, d) ∧ c2 (e, f) ∧ c2 (g, h) then (thr (bth (floatOfInt .f64 (a - g)) (floatOfInt .f64 (a - g)) (floatOfInt .f64 (b - h)) (floatOfInt .f64 (b - h))) (crs (floatOfInt .f64 (c - g)) (floatOfInt .f64 (f - h)) (floatOfInt .f64 (e - g)) (floatOfInt .f64 (d - h))) (bth (floatOfInt .f64 (c - g)) (floatOfInt .f64 (c - g)) (floatOfInt .f64 (d - h)) (floatOfInt .f64 (d - h))) (crs (floatOfInt .f64 (e - g)) (floatOfInt .f64 (b - h)) (floatOfInt .f64 (a - g)) (floatOfInt .f64 (f - h))) (bth (floatOfInt .f64 (e - g)) (floatOfInt .f64 (e - g)) (floatOfInt .f64 (f - h)) (floatOfInt .f64 (f - h))) (crs (floatOfInt .f64 (a - g)) (floatOfInt .f64 (d - h)) (floatOfInt .f64 (c - g)) (floatOfInt .f64 (b - h)))) else 0) ∧ Fin 500 (if c2 (a, b) ∧ c2 (c, d) ∧ c2 (e, f) ∧ c2 (g, h) then (fv .mul .f64 (thr (bth (floatOfInt .f64 (a - g)) (floatOfInt .f64 (a - g)) (floatOfInt .f64 (b - h)) (floatOfInt .f64 (b - h))) (bth (floatOfInt .f64 (c - g)) (floatOfInt .f64 (f - h)) (floatOfInt .f64 (e - g)) (floatOfInt .f64 (d - h))) (bth (floatOfInt .f64 (c - g)) (floatOfInt .f64 (c - g)) (floatOfInt .f64 (d - h)) (floatOfInt .f64 (d - h))) (bth (floatOfInt .f64 (e - g)) (floatOfInt .f64 (b - h)) (floatOfInt .f64 (a - g)) (floatOfInt .f64 (f - h))) (bth (floatOfInt .f64 (e - g)) (floatOfInt .f64 (e - g)) (floatOfInt .f64 (f - h)) (floatOfInt .f64 (f - h))) (bth (floatOfInt .f64 (a - g)) (floatOfInt .f64 (d - h)) (floatOfInt .f64 (c - g)) (floatOfInt .f64 (b - h)))) 4386506037058863104) else 0) := by
  by_cases hok : c2 (a, b) ∧ c2 (c, d) ∧ c2 (e, f) ∧ c2 (g, h)
  · simp only [if_pos hok]
    obtain ⟨ok1, ok2, ok3, ok4⟩ := hok
    have d00 : dm (a - g) := dm_sub (ok1.1) (ok4.1)
    have d01 : dm (b - h) := dm_sub (ok1.2) (ok4.2)
    have d10 : dm (c - g) := dm_sub (ok2.1) (ok4.1)
    have d11 : dm (d - h) := dm_sub (ok2.2) (ok4.2)
    have d20 : dm (e - g) := dm_sub (ok3.1) (ok4.1)
    have d21 : dm (f - h) := dm_sub (ok3.2) (ok4.2)
    have f00 := dm_fin d00
    have f01 := dm_fin d01
    have f10 := dm_fin d10
    have f11 := dm_fin d11
    have f20 := dm_fin d20
    have f21 := dm_fin d21
    obtain ⟨x00, hx00⟩ : ∃ x, floatOfInt .f64 (a - g) = x := ⟨_, rfl⟩
    rw [hx00] at f00
    obtain ⟨x01, hx01⟩ : ∃ x, floatOfInt .f64 (b - h) = x := ⟨_, rfl⟩
    rw [hx01] at f01
    obtain ⟨x10, hx10⟩ : ∃ x, floatOfInt .f64 (c - g) = x := ⟨_, rfl⟩
    rw [hx10] at f10
    obtain ⟨x11, hx11⟩ : ∃ x, floatOfInt .f64 (d - h) = x := ⟨_, rfl⟩
    rw [hx11] at f11
    obtain ⟨x20, hx20⟩ : ∃ x, floatOfInt .f64 (e - g) = x := ⟨_, rfl⟩
    rw [hx20] at f20
    obtain ⟨x21, hx21⟩ : ∃ x, floatOfInt .f64 (f - h) = x := ⟨_, rfl⟩
    rw [hx21] at f21
    simp only [hx00, hx01, hx10, hx11, hx20, hx21]
    obtain ⟨oc0, fc0⟩ := crs_fin f10 f21 f20 f11
    obtain ⟨ob0, fb0⟩ := bth_fin f10 f21 f20 f11
    have fl0 := (bth_fin f00 f00 f01 f01).2
    have fr0 := fl0
    obtain ⟨oc1, fc1⟩ := crs_fin f20 f01 f00 f21
    obtain ⟨ob1, fb1⟩ := bth_fin f20 f01 f00 f21
    have fl1 := (bth_fin f10 f10 f11 f11).2
    have fr1 := fl1
    obtain ⟨oc2, fc2⟩ := crs_fin f00 f11 f10 f01
    obtain ⟨ob2, fb2⟩ := bth_fin f00 f11 f10 f01
    have fl2 := (bth_fin f20 f20 f21 f21).2
    have fr2 := fl2
    obtain ⟨⟨p1, p2, p3, p4, p5⟩, fd⟩ := thr_fin fl0 fc0 fl1 fc1 fl2 fc2
    obtain ⟨⟨q1, q2, q3, q4, q5⟩, fe⟩ := thr_fin fr0 fb0 fr1 fb1 fr2 fb2
    obtain ⟨r1, rf⟩ := mul_fin fe fin_k1 (by omega) (by omega)
    exact ⟨fd.mono (by omega), rf.mono (by omega)⟩
  · simp only [if_neg hok]
    exact ⟨fin_zero.mono (by omega), fin_zero.mono (by omega)⟩
noncomputable def lwFInCircleC := ct4 EI2 EI2 EI2 EI2 (fun p0 p1 p2 p3 => (I64 p0.1 ∧ I64 p0.2) ∧ (I64 p1.1 ∧ I64 p1.2) ∧ (I64 p2.1 ∧ I64 p2.2) ∧ (I64 p3.1 ∧ I64 p3.2)) (fun p0 p1 p2 p3 => [.lit (.bool true)])
@[simp] theorem lwFInCircleC_at (a b : Int) (c d : Int) (e f : Int) (g h : Int) : lwFInCircleC [.agg [.lit (.int .i64 a), .lit (.int .i64 b)], .agg [.lit (.int .i64 c), .lit (.int .i64 d)], .agg [.lit (.int .i64 e), .lit (.int .i64 f)], .agg [.lit (.int .i64 g), .lit (.int .i64 h)]] = ((I64 a ∧ I64 b) ∧ (I64 c ∧ I64 d) ∧ (I64 e ∧ I64 f) ∧ (I64 g ∧ I64 h), [.lit (.bool true)]) := ct4_at (a, b) (c, d) (e, f) (g, h)
noncomputable def lwFInCircleTb : List (FuncId × Ct) := [(17, .data toP2C), (21, .data sFInCircleC), (22, .data iFInCircleC), (23, .data sameFC)]
theorem lwFInCircleTb_ok : TbOK NF Try.prog (tbl lwFInCircleTb) := tbl_cons (c := .data toP2C) toP2_spec toP2_ok (tbl_cons (c := .data sFInCircleC) sFInCircle_spec sFInCircle_ok (tbl_cons (c := .data iFInCircleC) iFInCircle_spec iFInCircle_ok (tbl_cons (c := .data sameFC) sameF_spec sameF_ok tbl_nil)))
@[simp] theorem lwFInCircleTb1 : tbl lwFInCircleTb 17 = some (.data toP2C) := rfl
@[simp] theorem lwFInCircleTb2 : tbl lwFInCircleTb 21 = some (.data sFInCircleC) := rfl
@[simp] theorem lwFInCircleTb3 : tbl lwFInCircleTb 22 = some (.data iFInCircleC) := rfl
@[simp] theorem lwFInCircleTb4 : tbl lwFInCircleTb 23 = some (.data sameFC) := rfl
set_option maxRecDepth 100000 in
set_option maxHeartbeats 4000000 in
theorem lwFInCircle_spec : SpecD NF Try.prog 7 lwFInCircleC := by
  refine rd4 (mf := fun f => false) lwFInCircleTb_ok (fn := Try.f7) (by kernel_rfl) rfl (by kernel_rfl) (by kernel_rfl) ?_
  rintro ⟨a, b⟩ ⟨c, d⟩ ⟨e, f⟩ ⟨g, h⟩ hp
  have hp : (I64 a ∧ I64 b) ∧ (I64 c ∧ I64 d) ∧ (I64 e ∧ I64 f) ∧ (I64 g ∧ I64 h) := hp
  show awp _ _ _ _ (start _ ([.agg [.lit (.int .i64 a), .lit (.int .i64 b)], .agg [.lit (.int .i64 c), .lit (.int .i64 d)], .agg [.lit (.int .i64 e), .lit (.int .i64 f)], .agg [.lit (.int .i64 g), .lit (.int .i64 h)]].map .dat) []) (endK _ _ _ (([.lit (.bool true)]).map .dat) [])
  obtain ⟨f1, f2⟩ := FInCircle_fin a b c d e f g h
  have g1 := sameF_self f1
  have g2 := sameF_self f2
  have ci := iFInCircleC_at a b c d e f g h
  have cs := sFInCircleC_at a b c d e f g h
  generalize (if c2 (a, b) ∧ c2 (c, d) ∧ c2 (e, f) ∧ c2 (g, h) then (thr (bth (floatOfInt .f64 (a - g)) (floatOfInt .f64 (a - g)) (floatOfInt .f64 (b - h)) (floatOfInt .f64 (b - h))) (crs (floatOfInt .f64 (c - g)) (floatOfInt .f64 (f - h)) (floatOfInt .f64 (e - g)) (floatOfInt .f64 (d - h))) (bth (floatOfInt .f64 (c - g)) (floatOfInt .f64 (c - g)) (floatOfInt .f64 (d - h)) (floatOfInt .f64 (d - h))) (crs (floatOfInt .f64 (e - g)) (floatOfInt .f64 (b - h)) (floatOfInt .f64 (a - g)) (floatOfInt .f64 (f - h))) (bth (floatOfInt .f64 (e - g)) (floatOfInt .f64 (e - g)) (floatOfInt .f64 (f - h)) (floatOfInt .f64 (f - h))) (crs (floatOfInt .f64 (a - g)) (floatOfInt .f64 (d - h)) (floatOfInt .f64 (c - g)) (floatOfInt .f64 (b - h)))) else 0) = X at *
  generalize (if c2 (a, b) ∧ c2 (c, d) ∧ c2 (e, f) ∧ c2 (g, h) then (fv .mul .f64 (thr (bth (floatOfInt .f64 (a - g)) (floatOfInt .f64 (a - g)) (floatOfInt .f64 (b - h)) (floatOfInt .f64 (b - h))) (bth (floatOfInt .f64 (c - g)) (floatOfInt .f64 (f - h)) (floatOfInt .f64 (e - g)) (floatOfInt .f64 (d - h))) (bth (floatOfInt .f64 (c - g)) (floatOfInt .f64 (c - g)) (floatOfInt .f64 (d - h)) (floatOfInt .f64 (d - h))) (bth (floatOfInt .f64 (e - g)) (floatOfInt .f64 (b - h)) (floatOfInt .f64 (a - g)) (floatOfInt .f64 (f - h))) (bth (floatOfInt .f64 (e - g)) (floatOfInt .f64 (e - g)) (floatOfInt .f64 (f - h)) (floatOfInt .f64 (f - h))) (bth (floatOfInt .f64 (a - g)) (floatOfInt .f64 (d - h)) (floatOfInt .f64 (c - g)) (floatOfInt .f64 (b - h)))) 4386506037058863104) else 0) = Y at *
  generalize (if c2 (a, b) ∧ c2 (c, d) ∧ c2 (e, f) ∧ c2 (g, h) then sur (thr (bth (floatOfInt .f64 (a - g)) (floatOfInt .f64 (a - g)) (floatOfInt .f64 (b - h)) (floatOfInt .f64 (b - h))) (crs (floatOfInt .f64 (c - g)) (floatOfInt .f64 (f - h)) (floatOfInt .f64 (e - g)) (floatOfInt .f64 (d - h))) (bth (floatOfInt .f64 (c - g)) (floatOfInt .f64 (c - g)) (floatOfInt .f64 (d - h)) (floatOfInt .f64 (d - h))) (crs (floatOfInt .f64 (e - g)) (floatOfInt .f64 (b - h)) (floatOfInt .f64 (a - g)) (floatOfInt .f64 (f - h))) (bth (floatOfInt .f64 (e - g)) (floatOfInt .f64 (e - g)) (floatOfInt .f64 (f - h)) (floatOfInt .f64 (f - h))) (crs (floatOfInt .f64 (a - g)) (floatOfInt .f64 (d - h)) (floatOfInt .f64 (c - g)) (floatOfInt .f64 (b - h)))) (fv .mul .f64 (thr (bth (floatOfInt .f64 (a - g)) (floatOfInt .f64 (a - g)) (floatOfInt .f64 (b - h)) (floatOfInt .f64 (b - h))) (bth (floatOfInt .f64 (c - g)) (floatOfInt .f64 (f - h)) (floatOfInt .f64 (e - g)) (floatOfInt .f64 (d - h))) (bth (floatOfInt .f64 (c - g)) (floatOfInt .f64 (c - g)) (floatOfInt .f64 (d - h)) (floatOfInt .f64 (d - h))) (bth (floatOfInt .f64 (e - g)) (floatOfInt .f64 (b - h)) (floatOfInt .f64 (a - g)) (floatOfInt .f64 (f - h))) (bth (floatOfInt .f64 (e - g)) (floatOfInt .f64 (e - g)) (floatOfInt .f64 (f - h)) (floatOfInt .f64 (f - h))) (bth (floatOfInt .f64 (a - g)) (floatOfInt .f64 (d - h)) (floatOfInt .f64 (c - g)) (floatOfInt .f64 (b - h)))) 4386506037058863104) else 2) = Z at *
  simp [-D.isLit, -iFInCircleC_at, -sFInCircleC_at, -sameFC_at, Try.f7, ci, cs, g1, g2]
theorem lwFInCircle_calls (a b c d e f g h : Int) (ha : (Lit.int .i64 a).wf = true) (hb : (Lit.int .i64 b).wf = true) (hc : (Lit.int .i64 c).wf = true) (hd : (Lit.int .i64 d).wf = true) (he : (Lit.int .i64 e).wf = true) (hf : (Lit.int .i64 f).wf = true) (hg : (Lit.int .i64 g).wf = true) (hh : (Lit.int .i64 h).wf = true) (w : World) :
    Calls Try.prog 7 #[.agg #[.int .i64 a, .int .i64 b], .agg #[.int .i64 c, .int .i64 d], .agg #[.int .i64 e, .int .i64 f], .agg #[.int .i64 g, .int .i64 h]] w fun e w' => e = .returned (.bool true) ∧ Below w.heap.size w w' :=
  law_calls lwFInCircle_spec (ds := [.agg [.lit (.int .i64 a), .lit (.int .i64 b)], .agg [.lit (.int .i64 c), .lit (.int .i64 d)], .agg [.lit (.int .i64 e), .lit (.int .i64 f)], .agg [.lit (.int .i64 g), .lit (.int .i64 h)]]) (by rw [lwFInCircleC_at]; exact ⟨⟨wf64 ha, wf64 hb⟩, ⟨wf64 hc, wf64 hd⟩, ⟨wf64 he, wf64 hf⟩, ⟨wf64 hg, wf64 hh⟩⟩) (by rw [lwFInCircleC_at]; rfl) (vs := [.agg #[.int .i64 a, .int .i64 b], .agg #[.int .i64 c, .int .i64 d], .agg #[.int .i64 e, .int .i64 f], .agg #[.int .i64 g, .int .i64 h]]) (repVs_cons (repV_flat (cs := [.int .i64 a, .int .i64 b]) rfl (fun v hv => by simp at hv; rcases hv with rfl | rfl <;> rfl) rfl) (repVs_cons (repV_flat (cs := [.int .i64 c, .int .i64 d]) rfl (fun v hv => by simp at hv; rcases hv with rfl | rfl <;> rfl) rfl) (repVs_cons (repV_flat (cs := [.int .i64 e, .int .i64 f]) rfl (fun v hv => by simp at hv; rcases hv with rfl | rfl <;> rfl) rfl) (repVs_cons (repV_flat (cs := [.int .i64 g, .int .i64 h]) rfl (fun v hv => by simp at hv; rcases hv with rfl | rfl <;> rfl) rfl) repVs_nil))))
end Go.Proofs.Ytcgolmopbnhgeaa.Ae

namespace Go.Proofs.Ytcgolmopbnhgeaa.Ae
open Go Go.RowKit Go.Proofs.Ytcgolmopbnhgeaa.Dig
theorem pairF3_0 {x10 x11 x12 x20 x21 x22 : Nat} (h : Fin 100 x10 ∧ Fin 100 x11 ∧ Fin 100 x12 ∧ Fin 100 x20 ∧ Fin 100 x21 ∧ Fin 100 x22) : pairF3C [.lit (.int .i64 1), .lit (.int .i64 2), .ptr (.agg [.lit (.float .f64 x10), .lit (.float .f64 x11), .lit (.float .f64 x12)]), .ptr (.agg [.lit (.float .f64 x20), .lit (.float .f64 x21), .lit (.float .f64 x22)])] = (True, [.lit (.float .f64 (crs x11 x22 x12 x21)), .lit (.float .f64 (bth x11 x22 x12 x21))]) := by
  rw [pairF3C_at, eq_true (show ((((1 : Int) = 1 ∧ (2 : Int) = 2) ∨ ((1 : Int) = 2 ∧ (2 : Int) = 0) ∨ ((1 : Int) = 0 ∧ (2 : Int) = 1)) ∧ Fin 100 x10 ∧ Fin 100 x11 ∧ Fin 100 x12 ∧ Fin 100 x20 ∧ Fin 100 x21 ∧ Fin 100 x22) from ⟨by omega, h⟩)]
  simp only [sel3_0, sel3_1, sel3_2]
theorem pairF3_1 {x10 x11 x12 x20 x21 x22 : Nat} (h : Fin 100 x10 ∧ Fin 100 x11 ∧ Fin 100 x12 ∧ Fin 100 x20 ∧ Fin 100 x21 ∧ Fin 100 x22) : pairF3C [.lit (.int .i64 2), .lit (.int .i64 0), .ptr (.agg [.lit (.float .f64 x10), .lit (.float .f64 x11), .lit (.float .f64 x12)]), .ptr (.agg [.lit (.float .f64 x20), .lit (.float .f64 x21), .lit (.float .f64 x22)])] = (True, [.lit (.float .f64 (crs x12 x20 x10 x22)), .lit (.float .f64 (bth x12 x20 x10 x22))]) := by
  rw [pairF3C_at, eq_true (show ((((2 : Int) = 1 ∧ (0 : Int) = 2) ∨ ((2 : Int) = 2 ∧ (0 : Int) = 0) ∨ ((2 : Int) = 0 ∧ (0 : Int) = 1)) ∧ Fin 100 x10 ∧ Fin 100 x11 ∧ Fin 100 x12 ∧ Fin 100 x20 ∧ Fin 100 x21 ∧ Fin 100 x22) from ⟨by omega, h⟩)]
  simp only [sel3_0, sel3_1, sel3_2]
theorem pairF3_2 {x10 x11 x12 x20 x21 x22 : Nat} (h : Fin 100 x10 ∧ Fin 100 x11 ∧ Fin 100 x12 ∧ Fin 100 x20 ∧ Fin 100 x21 ∧ Fin 100 x22) : pairF3C [.lit (.int .i64 0), .lit (.int .i64 1), .ptr (.agg [.lit (.float .f64 x10), .lit (.float .f64 x11), .lit (.float .f64 x12)]), .ptr (.agg [.lit (.float .f64 x20), .lit (.float .f64 x21), .lit (.float .f64 x22)])] = (True, [.lit (.float .f64 (crs x10 x21 x11 x20)), .lit (.float .f64 (bth x10 x21 x11 x20))]) := by
  rw [pairF3C_at, eq_true (show ((((0 : Int) = 1 ∧ (1 : Int) = 2) ∨ ((0 : Int) = 2 ∧ (1 : Int) = 0) ∨ ((0 : Int) = 0 ∧ (1 : Int) = 1)) ∧ Fin 100 x10 ∧ Fin 100 x11 ∧ Fin 100 x12 ∧ Fin 100 x20 ∧ Fin 100 x21 ∧ Fin 100 x22) from ⟨by omega, h⟩)]
  simp only [sel3_0, sel3_1, sel3_2]
noncomputable def iFOrient3C := ct4 EI3 EI3 EI3 EI3 (fun p0 p1 p2 p3 => True) (fun p0 p1 p2 p3 => [.lit (.float .f64 (if c3 (p0.1, p0.2.1, p0.2.2) ∧ c3 (p1.1, p1.2.1, p1.2.2) ∧ c3 (p2.1, p2.2.1, p2.2.2) ∧ c3 (p3.1, p3.2.1, p3.2.2) then (thr (floatOfInt .f64 (p0.1 - p3.1)) (crs (floatOfInt .f64 (p1.2.1 - p3.2.1)) (floatOfInt .f64 (p2.2.2 - p3.2.2)) (floatOfInt .f64 (p1.2.2 - p3.2.2)) (floatOfInt .f64 (p2.2.1 - p3.2.1))) (floatOfInt .f64 (p0.2.1 - p3.2.1)) (crs (floatOfInt .f64 (p1.2.2 - p3.2.2)) (floatOfInt .f64 (p2.1 - p3.1)) (floatOfInt .f64 (p1.1 - p3.1)) (floatOfInt .f64 (p2.2.2 - p3.2.2))) (floatOfInt .f64 (p0.2.2 - p3.2.2)) (crs (floatOfInt .f64 (p1.1 - p3.1)) (floatOfInt .f64 (p2.2.1 - p3.2.1)) (floatOfInt .f64 (p1.2.1 - p3.2.1)) (floatOfInt .f64 (p2.1 - p3.1)))) else 0)), .lit (.float .f64 (if c3 (p0.1, p0.2.1, p0.2.2) ∧ c3 (p1.1, p1.2.1, p1.2.2) ∧ c3 (p2.1, p2.2.1, p2.2.2) ∧ c3 (p3.1, p3.2.1, p3.2.2) then (fv .mul .f64 (thr (fabs (floatOfInt .f64 (p0.1 - p3.1))) (bth (floatOfInt .f64 (p1.2.1 - p3.2.1)) (floatOfInt .f64 (p2.2.2 - p3.2.2)) (floatOfInt .f64 (p1.2.2 - p3.2.2)) (floatOfInt .f64 (p2.2.1 - p3.2.1))) (fabs (floatOfInt .f64 (p0.2.1 - p3.2.1))) (bth (floatOfInt .f64 (p1.2.2 - p3.2.2)) (floatOfInt .f64 (p2.1 - p3.1)) (floatOfInt .f64 (p1.1 - p3.1)) (floatOfInt .f64 (p2.2.2 - p3.2.2))) (fabs (floatOfInt .f64 (p0.2.2 - p3.2.2))) (bth (floatOfInt .f64 (p1.1 - p3.1)) (floatOfInt .f64 (p2.2.1 - p3.2.1)) (floatOfInt .f64 (p1.2.1 - p3.2.1)) (floatOfInt .f64 (p2.1 - p3.1)))) 4382002437431492608) else 0)), .lit (.int .i64 (if c3 (p0.1, p0.2.1, p0.2.2) ∧ c3 (p1.1, p1.2.1, p1.2.2) ∧ c3 (p2.1, p2.2.1, p2.2.2) ∧ c3 (p3.1, p3.2.1, p3.2.2) then sur (thr (floatOfInt .f64 (p0.1 - p3.1)) (crs (floatOfInt .f64 (p1.2.1 - p3.2.1)) (floatOfInt .f64 (p2.2.2 - p3.2.2)) (floatOfInt .f64 (p1.2.2 - p3.2.2)) (floatOfInt .f64 (p2.2.1 - p3.2.1))) (floatOfInt .f64 (p0.2.1 - p3.2.1)) (crs (floatOfInt .f64 (p1.2.2 - p3.2.2)) (floatOfInt .f64 (p2.1 - p3.1)) (floatOfInt .f64 (p1.1 - p3.1)) (floatOfInt .f64 (p2.2.2 - p3.2.2))) (floatOfInt .f64 (p0.2.2 - p3.2.2)) (crs (floatOfInt .f64 (p1.1 - p3.1)) (floatOfInt .f64 (p2.2.1 - p3.2.1)) (floatOfInt .f64 (p1.2.1 - p3.2.1)) (floatOfInt .f64 (p2.1 - p3.1)))) (fv .mul .f64 (thr (fabs (floatOfInt .f64 (p0.1 - p3.1))) (bth (floatOfInt .f64 (p1.2.1 - p3.2.1)) (floatOfInt .f64 (p2.2.2 - p3.2.2)) (floatOfInt .f64 (p1.2.2 - p3.2.2)) (floatOfInt .f64 (p2.2.1 - p3.2.1))) (fabs (floatOfInt .f64 (p0.2.1 - p3.2.1))) (bth (floatOfInt .f64 (p1.2.2 - p3.2.2)) (floatOfInt .f64 (p2.1 - p3.1)) (floatOfInt .f64 (p1.1 - p3.1)) (floatOfInt .f64 (p2.2.2 - p3.2.2))) (fabs (floatOfInt .f64 (p0.2.2 - p3.2.2))) (bth (floatOfInt .f64 (p1.1 - p3.1)) (floatOfInt .f64 (p2.2.1 - p3.2.1)) (floatOfInt .f64 (p1.2.1 - p3.2.1)) (floatOfInt .f64 (p2.1 - p3.1)))) 4382002437431492608) else 2))])
@[simp] theorem iFOrient3C_at (a b c : Int) (d e f : Int) (g h i : Int) (j k l : Int) : iFOrient3C [.agg [.lit (.int .i64 a), .lit (.int .i64 b), .lit (.int .i64 c)], .agg [.lit (.int .i64 d), .lit (.int .i64 e), .lit (.int .i64 f)], .agg [.lit (.int .i64 g), .lit (.int .i64 h), .lit (.int .i64 i)], .agg [.lit (.int .i64 j), .lit (.int .i64 k), .lit (.int .i64 l)]] = (True, [.lit (.float .f64 (if c3 (a, b, c) ∧ c3 (d, e, f) ∧ c3 (g, h, i) ∧ c3 (j, k, l) then (thr (floatOfInt .f64 (a - j)) (crs (floatOfInt .f64 (e - k)) (floatOfInt .f64 (i - l)) (floatOfInt .f64 (f - l)) (floatOfInt .f64 (h - k))) (floatOfInt .f64 (b - k)) (crs (floatOfInt .f64 (f - l)) (floatOfInt .f64 (g - j)) (floatOfInt .f64 (d - j)) (floatOfInt .f64 (i - l))) (floatOfInt .f64 (c - l)) (crs (floatOfInt .f64 (d - j)) (floatOfInt .f64 (h - k)) (floatOfInt .f64 (e - k)) (floatOfInt .f64 (g - j)))) else 0)), .lit (.float .f64 (if c3 (a, b, c) ∧ c3 (d, e, f) ∧ c3 (g, h, i) ∧ c3 (j, k, l) then (fv .mul .f64 (thr (fabs (floatOfInt .f64 (a - j))) (bth (floatOfInt .f64 (e - k)) (floatOfInt .f64 (i - l)) (floatOfInt .f64 (f - l)) (floatOfInt .f64 (h - k))) (fabs (floatOfInt .f64 (b - k))) (bth (floatOfInt .f64 (f - l)) (floatOfInt .f64 (g - j)) (floatOfInt .f64 (d - j)) (floatOfInt .f64 (i - l))) (fabs (floatOfInt .f64 (c - l))) (bth (floatOfInt .f64 (d - j)) (floatOfInt .f64 (h - k)) (floatOfInt .f64 (e - k)) (floatOfInt .f64 (g - j)))) 4382002437431492608) else 0)), .lit (.int .i64 (if c3 (a, b, c) ∧ c3 (d, e, f) ∧ c3 (g, h, i) ∧ c3 (j, k, l) then sur (thr (floatOfInt .f64 (a - j)) (crs (floatOfInt .f64 (e - k)) (floatOfInt .f64 (i - l)) (floatOfInt .f64 (f - l)) (floatOfInt .f64 (h - k))) (floatOfInt .f64 (b - k)) (crs (floatOfInt .f64 (f - l)) (floatOfInt .f64 (g - j)) (floatOfInt .f64 (d - j)) (floatOfInt .f64 (i - l))) (floatOfInt .f64 (c - l)) (crs (floatOfInt .f64 (d - j)) (floatOfInt .f64 (h - k)) (floatOfInt .f64 (e - k)) (floatOfInt .f64 (g - j)))) (fv .mul .f64 (thr (fabs (floatOfInt .f64 (a - j))) (bth (floatOfInt .f64 (e - k)) (floatOfInt .f64 (i - l)) (floatOfInt .f64 (f - l)) (floatOfInt .f64 (h - k))) (fabs (floatOfInt .f64 (b - k))) (bth (floatOfInt .f64 (f - l)) (floatOfInt .f64 (g - j)) (floatOfInt .f64 (d - j)) (floatOfInt .f64 (i - l))) (fabs (floatOfInt .f64 (c - l))) (bth (floatOfInt .f64 (d - j)) (floatOfInt .f64 (h - k)) (floatOfInt .f64 (e - k)) (floatOfInt .f64 (g - j)))) 4382002437431492608) else 2))]) := ct4_at (a, b, c) (d, e, f) (g, h, i) (j, k, l)
noncomputable def iFOrient3Tb : List (FuncId × Ct) := [(43, .data tame3C), (63, .data rowF3C), (64, .data pairF3C), (61, .data iSureC), (60, .data mabsC)]
theorem iFOrient3Tb_ok {N : NR} : TbOK N Try.prog (tbl iFOrient3Tb) := tbl_cons (c := .data tame3C) tame3_spec tame3_ok (tbl_cons (c := .data rowF3C) rowF3_spec rowF3_ok (tbl_cons (c := .data pairF3C) pairF3_spec pairF3_ok (tbl_cons (c := .data iSureC) iSure_spec iSure_ok (tbl_cons (c := .data mabsC) mabs_spec mabs_ok tbl_nil))))
@[simp] theorem iFOrient3Tb1 : tbl iFOrient3Tb 43 = some (.data tame3C) := rfl
@[simp] theorem iFOrient3Tb2 : tbl iFOrient3Tb 63 = some (.data rowF3C) := rfl
@[simp] theorem iFOrient3Tb3 : tbl iFOrient3Tb 64 = some (.data pairF3C) := rfl
@[simp] theorem iFOrient3Tb4 : tbl iFOrient3Tb 61 = some (.data iSureC) := rfl
@[simp] theorem iFOrient3Tb5 : tbl iFOrient3Tb 60 = some (.data mabsC) := rfl
set_option maxRecDepth 100000 in
set_option maxHeartbeats 4000000 in
theorem iFOrient3_spec {N : NR} : SpecD N Try.prog 25 iFOrient3C := by
  refine rd4 (mf := fun f => f == fnp || f == rcel 4 12 || f == rcel 4 13 || f == rcel 4 14) iFOrient3Tb_ok (fn := Try.f25) (by kernel_rfl) rfl (by kernel_rfl) (by kernel_rfl) ?_
  rintro ⟨a, b, c⟩ ⟨d, e, f⟩ ⟨g, h, i⟩ ⟨j, k, l⟩ hp
  have hp : True := hp
  show awp _ _ _ _ (start _ ([.agg [.lit (.int .i64 a), .lit (.int .i64 b), .lit (.int .i64 c)], .agg [.lit (.int .i64 d), .lit (.int .i64 e), .lit (.int .i64 f)], .agg [.lit (.int .i64 g), .lit (.int .i64 h), .lit (.int .i64 i)], .agg [.lit (.int .i64 j), .lit (.int .i64 k), .lit (.int .i64 l)]].map .dat) []) (endK _ _ _ (([.lit (.float .f64 (if c3 (a, b, c) ∧ c3 (d, e, f) ∧ c3 (g, h, i) ∧ c3 (j, k, l) then (thr (floatOfInt .f64 (a - j)) (crs (floatOfInt .f64 (e - k)) (floatOfInt .f64 (i - l)) (floatOfInt .f64 (f - l)) (floatOfInt .f64 (h - k))) (floatOfInt .f64 (b - k)) (crs (floatOfInt .f64 (f - l)) (floatOfInt .f64 (g - j)) (floatOfInt .f64 (d - j)) (floatOfInt .f64 (i - l))) (floatOfInt .f64 (c - l)) (crs (floatOfInt .f64 (d - j)) (floatOfInt .f64 (h - k)) (floatOfInt .f64 (e - k)) (floatOfInt .f64 (g - j)))) else 0)), .lit (.float .f64 (if c3 (a, b, c) ∧ c3 (d, e, f) ∧ c3 (g, h, i) ∧ c3 (j, k, l) then (fv .mul .f64 (thr (fabs (floatOfInt .f64 (a - j))) (bth (floatOfInt .f64 (e - k)) (floatOfInt .f64 (i - l)) (floatOfInt .f64 (f - l)) (floatOfInt .f64 (h - k))) (fabs (floatOfInt .f64 (b - k))) (bth (floatOfInt .f64 (f - l)) (floatOfInt .f64 (g - j)) (floatOfInt .f64 (d - j)) (floatOfInt .f64 (i - l))) (fabs (floatOfInt .f64 (c - l))) (bth (floatOfInt .f64 (d - j)) (floatOfInt .f64 (h - k)) (floatOfInt .f64 (e - k)) (floatOfInt .f64 (g - j)))) 4382002437431492608) else 0)), .lit (.int .i64 (if c3 (a, b, c) ∧ c3 (d, e, f) ∧ c3 (g, h, i) ∧ c3 (j, k, l) then sur (thr (floatOfInt .f64 (a - j)) (crs (floatOfInt .f64 (e - k)) (floatOfInt .f64 (i - l)) (floatOfInt .f64 (f - l)) (floatOfInt .f64 (h - k))) (floatOfInt .f64 (b - k)) (crs (floatOfInt .f64 (f - l)) (floatOfInt .f64 (g - j)) (floatOfInt .f64 (d - j)) (floatOfInt .f64 (i - l))) (floatOfInt .f64 (c - l)) (crs (floatOfInt .f64 (d - j)) (floatOfInt .f64 (h - k)) (floatOfInt .f64 (e - k)) (floatOfInt .f64 (g - j)))) (fv .mul .f64 (thr (fabs (floatOfInt .f64 (a - j))) (bth (floatOfInt .f64 (e - k)) (floatOfInt .f64 (i - l)) (floatOfInt .f64 (f - l)) (floatOfInt .f64 (h - k))) (fabs (floatOfInt .f64 (b - k))) (bth (floatOfInt .f64 (f - l)) (floatOfInt .f64 (g - j)) (floatOfInt .f64 (d - j)) (floatOfInt .f64 (i - l))) (fabs (floatOfInt .f64 (c - l))) (bth (floatOfInt .f64 (d - j)) (floatOfInt .f64 (h - k)) (floatOfInt .f64 (e - k)) (floatOfInt .f64 (g - j)))) 4382002437431492608) else 2))]).map .dat) [])
  by_cases hok : c3 (a, b, c) ∧ c3 (d, e, f) ∧ c3 (g, h, i) ∧ c3 (j, k, l)
  · have hoks := hok
    simp only [if_pos hok]
    obtain ⟨ok1, ok2, ok3, ok4⟩ := hok
    have d00 : dm (a - j) := dm_sub (ok1.1) (ok4.1)
    have d01 : dm (b - k) := dm_sub (ok1.2.1) (ok4.2.1)
    have d02 : dm (c - l) := dm_sub (ok1.2.2) (ok4.2.2)
    have d10 : dm (d - j) := dm_sub (ok2.1) (ok4.1)
    have d11 : dm (e - k) := dm_sub (ok2.2.1) (ok4.2.1)
    have d12 : dm (f - l) := dm_sub (ok2.2.2) (ok4.2.2)
    have d20 : dm (g - j) := dm_sub (ok3.1) (ok4.1)
    have d21 : dm (h - k) := dm_sub (ok3.2.1) (ok4.2.1)
    have d22 : dm (i - l) := dm_sub (ok3.2.2) (ok4.2.2)
    have f00 := dm_fin d00
    have f01 := dm_fin d01
    have f02 := dm_fin d02
    have f10 := dm_fin d10
    have f11 := dm_fin d11
    have f12 := dm_fin d12
    have f20 := dm_fin d20
    have f21 := dm_fin d21
    have f22 := dm_fin d22
    have cc0 : rowF3C [.agg [.lit (.int .i64 a), .lit (.int .i64 b), .lit (.int .i64 c)], .ptr (.agg [.lit (.int .i64 j), .lit (.int .i64 k), .lit (.int .i64 l)])] = (True, [.agg [.lit (.float .f64 (floatOfInt .f64 (a - j))), .lit (.float .f64 (floatOfInt .f64 (b - k))), .lit (.float .f64 (floatOfInt .f64 (c - l)))]]) := by rw [rowF3C_at, eq_true (show c3 (a, b, c) ∧ c3 (j, k, l) from ⟨ok1, ok4⟩)]
    have cc1 : rowF3C [.agg [.lit (.int .i64 d), .lit (.int .i64 e), .lit (.int .i64 f)], .ptr (.agg [.lit (.int .i64 j), .lit (.int .i64 k), .lit (.int .i64 l)])] = (True, [.agg [.lit (.float .f64 (floatOfInt .f64 (d - j))), .lit (.float .f64 (floatOfInt .f64 (e - k))), .lit (.float .f64 (floatOfInt .f64 (f - l)))]]) := by rw [rowF3C_at, eq_true (show c3 (d, e, f) ∧ c3 (j, k, l) from ⟨ok2, ok4⟩)]
    have cc2 : rowF3C [.agg [.lit (.int .i64 g), .lit (.int .i64 h), .lit (.int .i64 i)], .ptr (.agg [.lit (.int .i64 j), .lit (.int .i64 k), .lit (.int .i64 l)])] = (True, [.agg [.lit (.float .f64 (floatOfInt .f64 (g - j))), .lit (.float .f64 (floatOfInt .f64 (h - k))), .lit (.float .f64 (floatOfInt .f64 (i - l)))]]) := by rw [rowF3C_at, eq_true (show c3 (g, h, i) ∧ c3 (j, k, l) from ⟨ok3, ok4⟩)]
    generalize hx00 : floatOfInt .f64 (a - j) = x00 at f00 cc0 ⊢
    generalize hx01 : floatOfInt .f64 (b - k) = x01 at f01 cc0 ⊢
    generalize hx02 : floatOfInt .f64 (c - l) = x02 at f02 cc0 ⊢
    generalize hx10 : floatOfInt .f64 (d - j) = x10 at f10 cc1 ⊢
    generalize hx11 : floatOfInt .f64 (e - k) = x11 at f11 cc1 ⊢
    generalize hx12 : floatOfInt .f64 (f - l) = x12 at f12 cc1 ⊢
    generalize hx20 : floatOfInt .f64 (g - j) = x20 at f20 cc2 ⊢
    generalize hx21 : floatOfInt .f64 (h - k) = x21 at f21 cc2 ⊢
    generalize hx22 : floatOfInt .f64 (i - l) = x22 at f22 cc2 ⊢
    have cp0 := pairF3_0 ⟨f10, f11, f12, f20, f21, f22⟩
    have cp1 := pairF3_1 ⟨f10, f11, f12, f20, f21, f22⟩
    have cp2 := pairF3_2 ⟨f10, f11, f12, f20, f21, f22⟩
    obtain ⟨oc0, fc0⟩ := crs_fin f11 f22 f12 f21
    obtain ⟨ob0, fb0⟩ := bth_fin f11 f22 f12 f21
    have fl0 := f00.mono (show 100 ≤ 204 by omega)
    have fr0 := abs_fin fl0
    obtain ⟨oc1, fc1⟩ := crs_fin f12 f20 f10 f22
    obtain ⟨ob1, fb1⟩ := bth_fin f12 f20 f10 f22
    have fl1 := f01.mono (show 100 ≤ 204 by omega)
    have fr1 := abs_fin fl1
    obtain ⟨oc2, fc2⟩ := crs_fin f10 f21 f11 f20
    obtain ⟨ob2, fb2⟩ := bth_fin f10 f21 f11 f20
    have fl2 := f02.mono (show 100 ≤ 204 by omega)
    have fr2 := abs_fin fl2
    obtain ⟨⟨p1, p2, p3, p4, p5⟩, fd⟩ := thr_fin fl0 fc0 fl1 fc1 fl2 fc2
    obtain ⟨⟨q1, q2, q3, q4, q5⟩, fe⟩ := thr_fin fr0 fb0 fr1 fb1 fr2 fb2
    obtain ⟨r1, _⟩ := mul_fin fe fin_k2 (by omega) (by omega)
    generalize hc0 : crs x11 x22 x12 x21 = v0 at *
    generalize hb0 : bth x11 x22 x12 x21 = w0 at *
    generalize hc1 : crs x12 x20 x10 x22 = v1 at *
    generalize hb1 : bth x12 x20 x10 x22 = w1 at *
    generalize hc2 : crs x10 x21 x11 x20 = v2 at *
    generalize hb2 : bth x10 x21 x11 x20 = w2 at *
    unfold thr at r1
    simp [-D.isLit, -rowF3C_at, -pairF3C_at, Try.f25, ok1, ok2, ok3, ok4, cc0, cc1, cc2, cp0, cp1, cp2, p1, p2, p3, p4, p5, q1, q2, q3, q4, q5, r1, thr, f00.2, f01.2, f02.2]
  · have hb : decide (c3 (a, b, c) ∧ c3 (d, e, f) ∧ c3 (g, h, i) ∧ c3 (j, k, l)) = false := decide_eq_false hok
    simp only [if_neg hok]
    simp [-D.isLit, -Bool.decide_and, Try.f25, hb]
theorem iFOrient3_ok : callable Try.prog 25 = true := by kernel_rfl
noncomputable def sFOrient3C := ct4 EI3 EI3 EI3 EI3 (fun p0 p1 p2 p3 => True) (fun p0 p1 p2 p3 => [.lit (.float .f64 (if c3 (p0.1, p0.2.1, p0.2.2) ∧ c3 (p1.1, p1.2.1, p1.2.2) ∧ c3 (p2.1, p2.2.1, p2.2.2) ∧ c3 (p3.1, p3.2.1, p3.2.2) then (thr (floatOfInt .f64 (p0.1 - p3.1)) (crs (floatOfInt .f64 (p1.2.1 - p3.2.1)) (floatOfInt .f64 (p2.2.2 - p3.2.2)) (floatOfInt .f64 (p1.2.2 - p3.2.2)) (floatOfInt .f64 (p2.2.1 - p3.2.1))) (floatOfInt .f64 (p0.2.1 - p3.2.1)) (crs (floatOfInt .f64 (p1.2.2 - p3.2.2)) (floatOfInt .f64 (p2.1 - p3.1)) (floatOfInt .f64 (p1.1 - p3.1)) (floatOfInt .f64 (p2.2.2 - p3.2.2))) (floatOfInt .f64 (p0.2.2 - p3.2.2)) (crs (floatOfInt .f64 (p1.1 - p3.1)) (floatOfInt .f64 (p2.2.1 - p3.2.1)) (floatOfInt .f64 (p1.2.1 - p3.2.1)) (floatOfInt .f64 (p2.1 - p3.1)))) else 0)), .lit (.float .f64 (if c3 (p0.1, p0.2.1, p0.2.2) ∧ c3 (p1.1, p1.2.1, p1.2.2) ∧ c3 (p2.1, p2.2.1, p2.2.2) ∧ c3 (p3.1, p3.2.1, p3.2.2) then (fv .mul .f64 (thr (fabs (floatOfInt .f64 (p0.1 - p3.1))) (bth (floatOfInt .f64 (p1.2.1 - p3.2.1)) (floatOfInt .f64 (p2.2.2 - p3.2.2)) (floatOfInt .f64 (p1.2.2 - p3.2.2)) (floatOfInt .f64 (p2.2.1 - p3.2.1))) (fabs (floatOfInt .f64 (p0.2.1 - p3.2.1))) (bth (floatOfInt .f64 (p1.2.2 - p3.2.2)) (floatOfInt .f64 (p2.1 - p3.1)) (floatOfInt .f64 (p1.1 - p3.1)) (floatOfInt .f64 (p2.2.2 - p3.2.2))) (fabs (floatOfInt .f64 (p0.2.2 - p3.2.2))) (bth (floatOfInt .f64 (p1.1 - p3.1)) (floatOfInt .f64 (p2.2.1 - p3.2.1)) (floatOfInt .f64 (p1.2.1 - p3.2.1)) (floatOfInt .f64 (p2.1 - p3.1)))) 4382002437431492608) else 0)), .lit (.int .i64 (if c3 (p0.1, p0.2.1, p0.2.2) ∧ c3 (p1.1, p1.2.1, p1.2.2) ∧ c3 (p2.1, p2.2.1, p2.2.2) ∧ c3 (p3.1, p3.2.1, p3.2.2) then sur (thr (floatOfInt .f64 (p0.1 - p3.1)) (crs (floatOfInt .f64 (p1.2.1 - p3.2.1)) (floatOfInt .f64 (p2.2.2 - p3.2.2)) (floatOfInt .f64 (p1.2.2 - p3.2.2)) (floatOfInt .f64 (p2.2.1 - p3.2.1))) (floatOfInt .f64 (p0.2.1 - p3.2.1)) (crs (floatOfInt .f64 (p1.2.2 - p3.2.2)) (floatOfInt .f64 (p2.1 - p3.1)) (floatOfInt .f64 (p1.1 - p3.1)) (floatOfInt .f64 (p2.2.2 - p3.2.2))) (floatOfInt .f64 (p0.2.2 - p3.2.2)) (crs (floatOfInt .f64 (p1.1 - p3.1)) (floatOfInt .f64 (p2.2.1 - p3.2.1)) (floatOfInt .f64 (p1.2.1 - p3.2.1)) (floatOfInt .f64 (p2.1 - p3.1)))) (fv .mul .f64 (thr (fabs (floatOfInt .f64 (p0.1 - p3.1))) (bth (floatOfInt .f64 (p1.2.1 - p3.2.1)) (floatOfInt .f64 (p2.2.2 - p3.2.2)) (floatOfInt .f64 (p1.2.2 - p3.2.2)) (floatOfInt .f64 (p2.2.1 - p3.2.1))) (fabs (floatOfInt .f64 (p0.2.1 - p3.2.1))) (bth (floatOfInt .f64 (p1.2.2 - p3.2.2)) (floatOfInt .f64 (p2.1 - p3.1)) (floatOfInt .f64 (p1.1 - p3.1)) (floatOfInt .f64 (p2.2.2 - p3.2.2))) (fabs (floatOfInt .f64 (p0.2.2 - p3.2.2))) (bth (floatOfInt .f64 (p1.1 - p3.1)) (floatOfInt .f64 (p2.2.1 - p3.2.1)) (floatOfInt .f64 (p1.2.1 - p3.2.1)) (floatOfInt .f64 (p2.1 - p3.1)))) 4382002437431492608) else 2))])
@[simp] theorem sFOrient3C_at (a b c : Int) (d e f : Int) (g h i : Int) (j k l : Int) : sFOrient3C [.agg [.lit (.int .i64 a), .lit (.int .i64 b), .lit (.int .i64 c)], .agg [.lit (.int .i64 d), .lit (.int .i64 e), .lit (.int .i64 f)], .agg [.lit (.int .i64 g), .lit (.int .i64 h), .lit (.int .i64 i)], .agg [.lit (.int .i64 j), .lit (.int .i64 k), .lit (.int .i64 l)]] = (True, [.lit (.float .f64 (if c3 (a, b, c) ∧ c3 (d, e, f) ∧ c3 (g, h, i) ∧ c3 (j, k, l) then (thr (floatOfInt .f64 (a - j)) (crs (floatOfInt .f64 (e - k)) (floatOfInt .f64 (i - l)) (floatOfInt .f64 (f - l)) (floatOfInt .f64 (h - k))) (floatOfInt .f64 (b - k)) (crs (floatOfInt .f64 (f - l)) (floatOfInt .f64 (g - j)) (floatOfInt .f64 (d - j)) (floatOfInt .f64 (i - l))) (floatOfInt .f64 (c - l)) (crs (floatOfInt .f64 (d - j)) (floatOfInt .f64 (h - k)) (floatOfInt .f64 (e - k)) (floatOfInt .f64 (g - j)))) else 0)), .lit (.float .f64 (if c3 (a, b, c) ∧ c3 (d, e, f) ∧ c3 (g, h, i) ∧ c3 (j, k, l) then (fv .mul .f64 (thr (fabs (floatOfInt .f64 (a - j))) (bth (floatOfInt .f64 (e - k)) (floatOfInt .f64 (i - l)) (floatOfInt .f64 (f - l)) (floatOfInt .f64 (h - k))) (fabs (floatOfInt .f64 (b - k))) (bth (floatOfInt .f64 (f - l)) (floatOfInt .f64 (g - j)) (floatOfInt .f64 (d - j)) (floatOfInt .f64 (i - l))) (fabs (floatOfInt .f64 (c - l))) (bth (floatOfInt .f64 (d - j)) (floatOfInt .f64 (h - k)) (floatOfInt .f64 (e - k)) (floatOfInt .f64 (g - j)))) 4382002437431492608) else 0)), .lit (.int .i64 (if c3 (a, b, c) ∧ c3 (d, e, f) ∧ c3 (g, h, i) ∧ c3 (j, k, l) then sur (thr (floatOfInt .f64 (a - j)) (crs (floatOfInt .f64 (e - k)) (floatOfInt .f64 (i - l)) (floatOfInt .f64 (f - l)) (floatOfInt .f64 (h - k))) (floatOfInt .f64 (b - k)) (crs (floatOfInt .f64 (f - l)) (floatOfInt .f64 (g - j)) (floatOfInt .f64 (d - j)) (floatOfInt .f64 (i - l))) (floatOfInt .f64 (c - l)) (crs (floatOfInt .f64 (d - j)) (floatOfInt .f64 (h - k)) (floatOfInt .f64 (e - k)) (floatOfInt .f64 (g - j)))) (fv .mul .f64 (thr (fabs (floatOfInt .f64 (a - j))) (bth (floatOfInt .f64 (e - k)) (floatOfInt .f64 (i - l)) (floatOfInt .f64 (f - l)) (floatOfInt .f64 (h - k))) (fabs (floatOfInt .f64 (b - k))) (bth (floatOfInt .f64 (f - l)) (floatOfInt .f64 (g - j)) (floatOfInt .f64 (d - j)) (floatOfInt .f64 (i - l))) (fabs (floatOfInt .f64 (c - l))) (bth (floatOfInt .f64 (d - j)) (floatOfInt .f64 (h - k)) (floatOfInt .f64 (e - k)) (floatOfInt .f64 (g - j)))) 4382002437431492608) else 2))]) := ct4_at (a, b, c) (d, e, f) (g, h, i) (j, k, l)
noncomputable def sFOrient3Tb : List (FuncId × Ct) := [(40, .data l2TameC), (56, .data sCrossC), (54, .data sBothC), (55, .data thrC), (57, .data sSureC), (62, .data sAbsC)]
theorem sFOrient3Tb_ok : TbOK NF Try.prog (tbl sFOrient3Tb) := tbl_cons (c := .data l2TameC) l2Tame_spec l2Tame_ok (tbl_cons (c := .data sCrossC) sCross_spec sCross_ok (tbl_cons (c := .data sBothC) sBoth_spec sBoth_ok (tbl_cons (c := .data thrC) thr_spec thr_ok (tbl_cons (c := .data sSureC) sSure_spec sSure_ok (tbl_cons (c := .data sAbsC) sAbs_spec sAbs_ok tbl_nil)))))
@[simp] theorem sFOrient3Tb1 : tbl sFOrient3Tb 40 = some (.data l2TameC) := rfl
@[simp] theorem sFOrient3Tb2 : tbl sFOrient3Tb 56 = some (.data sCrossC) := rfl
@[simp] theorem sFOrient3Tb3 : tbl sFOrient3Tb 54 = some (.data sBothC) := rfl
@[simp] theorem sFOrient3Tb4 : tbl sFOrient3Tb 55 = some (.data thrC) := rfl
@[simp] theorem sFOrient3Tb5 : tbl sFOrient3Tb 57 = some (.data sSureC) := rfl
@[simp] theorem sFOrient3Tb6 : tbl sFOrient3Tb 62 = some (.data sAbsC) := rfl
set_option maxRecDepth 100000 in
set_option maxHeartbeats 4000000 in
theorem sFOrient3_spec : SpecD NF Try.prog 24 sFOrient3C := by
  refine rd4 (mf := fun f => false) sFOrient3Tb_ok (fn := Try.f24) (by kernel_rfl) rfl (by kernel_rfl) (by kernel_rfl) ?_
  rintro ⟨a, b, c⟩ ⟨d, e, f⟩ ⟨g, h, i⟩ ⟨j, k, l⟩ hp
  have hp : True := hp
  show awp _ _ _ _ (start _ ([.agg [.lit (.int .i64 a), .lit (.int .i64 b), .lit (.int .i64 c)], .agg [.lit (.int .i64 d), .lit (.int .i64 e), .lit (.int .i64 f)], .agg [.lit (.int .i64 g), .lit (.int .i64 h), .lit (.int .i64 i)], .agg [.lit (.int .i64 j), .lit (.int .i64 k), .lit (.int .i64 l)]].map .dat) []) (endK _ _ _ (([.lit (.float .f64 (if c3 (a, b, c) ∧ c3 (d, e, f) ∧ c3 (g, h, i) ∧ c3 (j, k, l) then (thr (floatOfInt .f64 (a - j)) (crs (floatOfInt .f64 (e - k)) (floatOfInt .f64 (i - l)) (floatOfInt .f64 (f - l)) (floatOfInt .f64 (h - k))) (floatOfInt .f64 (b - k)) (crs (floatOfInt .f64 (f - l)) (floatOfInt .f64 (g - j)) (floatOfInt .f64 (d - j)) (floatOfInt .f64 (i - l))) (floatOfInt .f64 (c - l)) (crs (floatOfInt .f64 (d - j)) (floatOfInt .f64 (h - k)) (floatOfInt .f64 (e - k)) (floatOfInt .f64 (g - j)))) else 0)), .lit (.float .f64 (if c3 (a, b, c) ∧ c3 (d, e, f) ∧ c3 (g, h, i) ∧ c3 (j, k, l) then (fv .mul .f64 (thr (fabs (floatOfInt .f64 (a - j))) (bth (floatOfInt .f64 (e - k)) (floatOfInt .f64 (i - l)) (floatOfInt .f64 (f - l)) (floatOfInt .f64 (h - k))) (fabs (floatOfInt .f64 (b - k))) (bth (floatOfInt .f64 (f - l)) (floatOfInt .f64 (g - j)) (floatOfInt .f64 (d - j)) (floatOfInt .f64 (i - l))) (fabs (floatOfInt .f64 (c - l))) (bth (floatOfInt .f64 (d - j)) (floatOfInt .f64 (h - k)) (floatOfInt .f64 (e - k)) (floatOfInt .f64 (g - j)))) 4382002437431492608) else 0)), .lit (.int .i64 (if c3 (a, b, c) ∧ c3 (d, e, f) ∧ c3 (g, h, i) ∧ c3 (j, k, l) then sur (thr (floatOfInt .f64 (a - j)) (crs (floatOfInt .f64 (e - k)) (floatOfInt .f64 (i - l)) (floatOfInt .f64 (f - l)) (floatOfInt .f64 (h - k))) (floatOfInt .f64 (b - k)) (crs (floatOfInt .f64 (f - l)) (floatOfInt .f64 (g - j)) (floatOfInt .f64 (d - j)) (floatOfInt .f64 (i - l))) (floatOfInt .f64 (c - l)) (crs (floatOfInt .f64 (d - j)) (floatOfInt .f64 (h - k)) (floatOfInt .f64 (e - k)) (floatOfInt .f64 (g - j)))) (fv .mul .f64 (thr (fabs (floatOfInt .f64 (a - j))) (bth (floatOfInt .f64 (e - k)) (floatOfInt .f64 (i - l)) (floatOfInt .f64 (f - l)) (floatOfInt .f64 (h - k))) (fabs (floatOfInt .f64 (b - k))) (bth (floatOfInt .f64 (f - l)) (floatOfInt .f64 (g - j)) (floatOfInt .f64 (d - j)) (floatOfInt .f64 (i - l))) (fabs (floatOfInt .f64 (c - l))) (bth (floatOfInt .f64 (d - j)) (floatOfInt .f64 (h - k)) (floatOfInt .f64 (e - k)) (floatOfInt .f64 (g - j)))) 4382002437431492608) else 2))]).map .dat) [])
  by_cases hok : c3 (a, b, c) ∧ c3 (d, e, f) ∧ c3 (g, h, i) ∧ c3 (j, k, l)
  · have hoks := hok
    simp only [if_pos hok]
    obtain ⟨ok1, ok2, ok3, ok4⟩ := hok
    have d00 : dm (a - j) := dm_sub (ok1.1) (ok4.1)
    have d01 : dm (b - k) := dm_sub (ok1.2.1) (ok4.2.1)
    have d02 : dm (c - l) := dm_sub (ok1.2.2) (ok4.2.2)
    have d10 : dm (d - j) := dm_sub (ok2.1) (ok4.1)
    have d11 : dm (e - k) := dm_sub (ok2.2.1) (ok4.2.1)
    have d12 : dm (f - l) := dm_sub (ok2.2.2) (ok4.2.2)
    have d20 : dm (g - j) := dm_sub (ok3.1) (ok4.1)
    have d21 : dm (h - k) := dm_sub (ok3.2.1) (ok4.2.1)
    have d22 : dm (i - l) := dm_sub (ok3.2.2) (ok4.2.2)
    have f00 := dm_fin d00
    have f01 := dm_fin d01
    have f02 := dm_fin d02
    have f10 := dm_fin d10
    have f11 := dm_fin d11
    have f12 := dm_fin d12
    have f20 := dm_fin d20
    have f21 := dm_fin d21
    have f22 := dm_fin d22
    have w00 : IntKind.i64.wrap (a - j) = a - j := i64_id _ (by have := dm_i64 d00; unfold I64 at this; omega) (by have := dm_i64 d00; unfold I64 at this; omega)
    have w01 : IntKind.i64.wrap (b - k) = b - k := i64_id _ (by have := dm_i64 d01; unfold I64 at this; omega) (by have := dm_i64 d01; unfold I64 at this; omega)
    have w02 : IntKind.i64.wrap (c - l) = c - l := i64_id _ (by have := dm_i64 d02; unfold I64 at this; omega) (by have := dm_i64 d02; unfold I64 at this; omega)
    have w10 : IntKind.i64.wrap (d - j) = d - j := i64_id _ (by have := dm_i64 d10; unfold I64 at this; omega) (by have := dm_i64 d10; unfold I64 at this; omega)
    have w11 : IntKind.i64.wrap (e - k) = e - k := i64_id _ (by have := dm_i64 d11; unfold I64 at this; omega) (by have := dm_i64 d11; unfold I64 at this; omega)
    have w12 : IntKind.i64.wrap (f - l) = f - l := i64_id _ (by have := dm_i64 d12; unfold I64 at this; omega) (by have := dm_i64 d12; unfold I64 at this; omega)
    have w20 : IntKind.i64.wrap (g - j) = g - j := i64_id _ (by have := dm_i64 d20; unfold I64 at this; omega) (by have := dm_i64 d20; unfold I64 at this; omega)
    have w21 : IntKind.i64.wrap (h - k) = h - k := i64_id _ (by have := dm_i64 d21; unfold I64 at this; omega) (by have := dm_i64 d21; unfold I64 at this; omega)
    have w22 : IntKind.i64.wrap (i - l) = i - l := i64_id _ (by have := dm_i64 d22; unfold I64 at this; omega) (by have := dm_i64 d22; unfold I64 at this; omega)
    obtain ⟨x00, hx00⟩ : ∃ x, floatOfInt .f64 (a - j) = x := ⟨_, rfl⟩
    rw [hx00] at f00
    obtain ⟨x01, hx01⟩ : ∃ x, floatOfInt .f64 (b - k) = x := ⟨_, rfl⟩
    rw [hx01] at f01
    obtain ⟨x02, hx02⟩ : ∃ x, floatOfInt .f64 (c - l) = x := ⟨_, rfl⟩
    rw [hx02] at f02
    obtain ⟨x10, hx10⟩ : ∃ x, floatOfInt .f64 (d - j) = x := ⟨_, rfl⟩
    rw [hx10] at f10
    obtain ⟨x11, hx11⟩ : ∃ x, floatOfInt .f64 (e - k) = x := ⟨_, rfl⟩
    rw [hx11] at f11
    obtain ⟨x12, hx12⟩ : ∃ x, floatOfInt .f64 (f - l) = x := ⟨_, rfl⟩
    rw [hx12] at f12
    obtain ⟨x20, hx20⟩ : ∃ x, floatOfInt .f64 (g - j) = x := ⟨_, rfl⟩
    rw [hx20] at f20
    obtain ⟨x21, hx21⟩ : ∃ x, floatOfInt .f64 (h - k) = x := ⟨_, rfl⟩
    rw [hx21] at f21
    obtain ⟨x22, hx22⟩ : ∃ x, floatOfInt .f64 (i - l) = x := ⟨_, rfl⟩
    rw [hx22] at f22
    simp only [hx00, hx01, hx02, hx10, hx11, hx12, hx20, hx21, hx22]
    have cx0 : sCrossC [.lit (.float .f64 x11), .lit (.float .f64 x22), .lit (.float .f64 x12), .lit (.float .f64 x21)] = (True, [.lit (.float .f64 (crs x11 x22 x12 x21))]) := by rw [sCrossC_at, eq_true (show Fin 100 x11 ∧ Fin 100 x22 ∧ Fin 100 x12 ∧ Fin 100 x21 from ⟨f11, f22, f12, f21⟩)]
    have cb0 : sBothC [.lit (.float .f64 x11), .lit (.float .f64 x22), .lit (.float .f64 x12), .lit (.float .f64 x21)] = (True, [.lit (.float .f64 (bth x11 x22 x12 x21))]) := by rw [sBothC_at, eq_true (show Fin 100 x11 ∧ Fin 100 x22 ∧ Fin 100 x12 ∧ Fin 100 x21 from ⟨f11, f22, f12, f21⟩)]
    have cl0 : sAbsC [.lit (.float .f64 x00)] = (True, [.lit (.float .f64 (fabs x00))]) := by rw [sAbsC_at, eq_true (f00.mono (show 100 ≤ 500 by omega))]
    have cx1 : sCrossC [.lit (.float .f64 x12), .lit (.float .f64 x20), .lit (.float .f64 x10), .lit (.float .f64 x22)] = (True, [.lit (.float .f64 (crs x12 x20 x10 x22))]) := by rw [sCrossC_at, eq_true (show Fin 100 x12 ∧ Fin 100 x20 ∧ Fin 100 x10 ∧ Fin 100 x22 from ⟨f12, f20, f10, f22⟩)]
    have cb1 : sBothC [.lit (.float .f64 x12), .lit (.float .f64 x20), .lit (.float .f64 x10), .lit (.float .f64 x22)] = (True, [.lit (.float .f64 (bth x12 x20 x10 x22))]) := by rw [sBothC_at, eq_true (show Fin 100 x12 ∧ Fin 100 x20 ∧ Fin 100 x10 ∧ Fin 100 x22 from ⟨f12, f20, f10, f22⟩)]
    have cl1 : sAbsC [.lit (.float .f64 x01)] = (True, [.lit (.float .f64 (fabs x01))]) := by rw [sAbsC_at, eq_true (f01.mono (show 100 ≤ 500 by omega))]
    have cx2 : sCrossC [.lit (.float .f64 x10), .lit (.float .f64 x21), .lit (.float .f64 x11), .lit (.float .f64 x20)] = (True, [.lit (.float .f64 (crs x10 x21 x11 x20))]) := by rw [sCrossC_at, eq_true (show Fin 100 x10 ∧ Fin 100 x21 ∧ Fin 100 x11 ∧ Fin 100 x20 from ⟨f10, f21, f11, f20⟩)]
    have cb2 : sBothC [.lit (.float .f64 x10), .lit (.float .f64 x21), .lit (.float .f64 x11), .lit (.float .f64 x20)] = (True, [.lit (.float .f64 (bth x10 x21 x11 x20))]) := by rw [sBothC_at, eq_true (show Fin 100 x10 ∧ Fin 100 x21 ∧ Fin 100 x11 ∧ Fin 100 x20 from ⟨f10, f21, f11, f20⟩)]
    have cl2 : sAbsC [.lit (.float .f64 x02)] = (True, [.lit (.float .f64 (fabs x02))]) := by rw [sAbsC_at, eq_true (f02.mono (show 100 ≤ 500 by omega))]
    obtain ⟨oc0, fc0⟩ := crs_fin f11 f22 f12 f21
    obtain ⟨ob0, fb0⟩ := bth_fin f11 f22 f12 f21
    have fl0 := f00.mono (show 100 ≤ 204 by omega)
    have fr0 := abs_fin fl0
    obtain ⟨oc1, fc1⟩ := crs_fin f12 f20 f10 f22
    obtain ⟨ob1, fb1⟩ := bth_fin f12 f20 f10 f22
    have fl1 := f01.mono (show 100 ≤ 204 by omega)
    have fr1 := abs_fin fl1
    obtain ⟨oc2, fc2⟩ := crs_fin f10 f21 f11 f20
    obtain ⟨ob2, fb2⟩ := bth_fin f10 f21 f11 f20
    have fl2 := f02.mono (show 100 ≤ 204 by omega)
    have fr2 := abs_fin fl2
    obtain ⟨⟨p1, p2, p3, p4, p5⟩, fd⟩ := thr_fin fl0 fc0 fl1 fc1 fl2 fc2
    obtain ⟨⟨q1, q2, q3, q4, q5⟩, fe⟩ := thr_fin fr0 fb0 fr1 fb1 fr2 fb2
    obtain ⟨r1, _⟩ := mul_fin fe fin_k2 (by omega) (by omega)
    have ct0 : thrC [.lit (.float .f64 x00), .lit (.float .f64 (crs x11 x22 x12 x21)), .lit (.float .f64 x01), .lit (.float .f64 (crs x12 x20 x10 x22)), .lit (.float .f64 x02), .lit (.float .f64 (crs x10 x21 x11 x20))] = (True, [.lit (.float .f64 (thr x00 (crs x11 x22 x12 x21) x01 (crs x12 x20 x10 x22) x02 (crs x10 x21 x11 x20)))]) := by rw [thrC_at, eq_true (show Fin 204 x00 ∧ Fin 204 (crs x11 x22 x12 x21) ∧ Fin 204 x01 ∧ Fin 204 (crs x12 x20 x10 x22) ∧ Fin 204 x02 ∧ Fin 204 (crs x10 x21 x11 x20) from ⟨fl0, fc0, fl1, fc1, fl2, fc2⟩)]
    have ct1 : thrC [.lit (.float .f64 (fabs x00)), .lit (.float .f64 (bth x11 x22 x12 x21)), .lit (.float .f64 (fabs x01)), .lit (.float .f64 (bth x12 x20 x10 x22)), .lit (.float .f64 (fabs x02)), .lit (.float .f64 (bth x10 x21 x11 x20))] = (True, [.lit (.float .f64 (thr (fabs x00) (bth x11 x22 x12 x21) (fabs x01) (bth x12 x20 x10 x22) (fabs x02) (bth x10 x21 x11 x20)))]) := by rw [thrC_at, eq_true (show Fin 204 (fabs x00) ∧ Fin 204 (bth x11 x22 x12 x21) ∧ Fin 204 (fabs x01) ∧ Fin 204 (bth x12 x20 x10 x22) ∧ Fin 204 (fabs x02) ∧ Fin 204 (bth x10 x21 x11 x20) from ⟨fr0, fb0, fr1, fb1, fr2, fb2⟩)]
    simp [-D.isLit, -sCrossC_at, -sBothC_at, -thrC_at, -sAbsC_at, Try.f24, ok1, ok2, ok3, ok4, w00, w01, w02, w10, w11, w12, w20, w21, w22, hx00, hx01, hx02, hx10, hx11, hx12, hx20, hx21, hx22, cx0, cx1, cx2, cb0, cb1, cb2, cl0, cl1, cl2, ct0, ct1, r1]
  · have hb : decide (c3 (a, b, c) ∧ c3 (d, e, f) ∧ c3 (g, h, i) ∧ c3 (j, k, l)) = false := decide_eq_false hok
    simp only [if_neg hok]
    simp [-D.isLit, -Bool.decide_and, Try.f24, hb]
theorem sFOrient3_ok : callable Try.prog 24 = true := by kernel_rfl
theorem FOrient3_fin (a b c d e f g h i j k l : Int) : Fin 500 (if c3 (a, b, c) ∧ c3 (d, e, f) ∧ c3 (g, h, i) ∧ c3 (j, k, l) then (thr (floatOfInt .f64 (a - j)) (crs (floatOfInt .f64 (e - k)) (floatOfInt .f64 (i - l)) (floatOfInt .f64 (f - l)) (floatOfInt .f64 (h - k))) (floatOfInt .f64 (b - k)) (crs (floatOfInt .f64 (f - l)) (floatOfInt .f64 (g - j)) (floatOfInt .f64 (d - j)) (floatOfInt .f64 (i - l))) (floatOfInt .f64 (c - l)) (crs (floatOfInt .f64 (d - j)) (floatOfInt .f64 (h - k)) (floatOfInt .f64 (e - k)) (floatOfInt .f64 (g - j)))) else 0) ∧ Fin 500 (if c3 (a, b, c) ∧ c3 (d, e, f) ∧ c3 (g, h, i) ∧ c3 (j, k, l) then (fv .mul .f64 (thr (fabs (floatOfInt .f64 (a - j))) (bth (floatOfInt .f64 (e - k)) (floatOfInt .f64 (i - l)) (floatOfInt .f64 (f - l)) (floatOfInt .f64 (h - k))) (fabs (floatOfInt .f64 (b - k))) (bth (floatOfInt .f64 (f - l)) (floatOfInt .f64 (g - j)) (floatOfInt .f64 (d - j)) (floatOfInt .f64 (i - l))) (fabs (floatOfInt .f64 (c - l))) (bth (floatOfInt .f64 (d - j)) (floatOfInt .f64 (h - k)) (floatOfInt .f64 (e - k)) (floatOfInt .f64 (g - j)))) 4382002437431492608) else 0) := by
  by_cases hok : c3 (a, b, c) ∧ c3 (d, e, f) ∧ c3 (g, h, i) ∧ c3 (j, k, l)
  · simp only [if_pos hok]
    obtain ⟨ok1, ok2, ok3, ok4⟩ := hok
    have d00 : dm (a - j) := dm_sub (ok1.1) (ok4.1)
    have d01 : dm (b - k) := dm_sub (ok1.2.1) (ok4.2.1)
    have d02 : dm (c - l) := dm_sub (ok1.2.2) (ok4.2.2)
    have d10 : dm (d - j) := dm_sub (ok2.1) (ok4.1)
    have d11 : dm (e - k) := dm_sub (ok2.2.1) (ok4.2.1)
    have d12 : dm (f - l) := dm_sub (ok2.2.2) (ok4.2.2)
    have d20 : dm (g - j) := dm_sub (ok3.1) (ok4.1)
    have d21 : dm (h - k) := dm_sub (ok3.2.1) (ok4.2.1)
    have d22 : dm (i - l) := dm_sub (ok3.2.2) (ok4.2.2)
    have f00 := dm_fin d00
    have f01 := dm_fin d01
    have f02 := dm_fin d02
    have f10 := dm_fin d10
    have f11 := dm_fin d11
    have f12 := dm_fin d12
    have f20 := dm_fin d20
    have f21 := dm_fin d21
    have f22 := dm_fin d22
    obtain ⟨x00, hx00⟩ : ∃ x, floatOfInt .f64 (a - j) = x := ⟨_, rfl⟩
    rw [hx00] at f00
    obtain ⟨x01, hx01⟩ : ∃ x, floatOfInt .f64 (b - k) = x := ⟨_, rfl⟩
    rw [hx01] at f01
    obtain ⟨x02, hx02⟩ : ∃ x, floatOfInt .f64 (c - l) = x := ⟨_, rfl⟩
    rw [hx02] at f02
    obtain ⟨x10, hx10⟩ : ∃ x, floatOfInt .f64 (d - j) = x := ⟨_, rfl⟩
    rw [hx10] at f10
    obtain ⟨x11, hx11⟩ : ∃ x, floatOfInt .f64 (e - k) = x := ⟨_, rfl⟩
    rw [hx11] at f11
    obtain ⟨x12, hx12⟩ : ∃ x, floatOfInt .f64 (f - l) = x := ⟨_, rfl⟩
    rw [hx12] at f12
    obtain ⟨x20, hx20⟩ : ∃ x, floatOfInt .f64 (g - j) = x := ⟨_, rfl⟩
    rw [hx20] at f20
    obtain ⟨x21, hx21⟩ : ∃ x, floatOfInt .f64 (h - k) = x := ⟨_, rfl⟩
    rw [hx21] at f21
    obtain ⟨x22, hx22⟩ : ∃ x, floatOfInt .f64 (i - l) = x := ⟨_, rfl⟩
    rw [hx22] at f22
    simp only [hx00, hx01, hx02, hx10, hx11, hx12, hx20, hx21, hx22]
    obtain ⟨oc0, fc0⟩ := crs_fin f11 f22 f12 f21
    obtain ⟨ob0, fb0⟩ := bth_fin f11 f22 f12 f21
    have fl0 := f00.mono (show 100 ≤ 204 by omega)
    have fr0 := abs_fin fl0
    obtain ⟨oc1, fc1⟩ := crs_fin f12 f20 f10 f22
    obtain ⟨ob1, fb1⟩ := bth_fin f12 f20 f10 f22
    have fl1 := f01.mono (show 100 ≤ 204 by omega)
    have fr1 := abs_fin fl1
    obtain ⟨oc2, fc2⟩ := crs_fin f10 f21 f11 f20
    obtain ⟨ob2, fb2⟩ := bth_fin f10 f21 f11 f20
    have fl2 := f02.mono (show 100 ≤ 204 by omega)
    have fr2 := abs_fin fl2
    obtain ⟨⟨p1, p2, p3, p4, p5⟩, fd⟩ := thr_fin fl0 fc0 fl1 fc1 fl2 fc2
    obtain ⟨⟨q1, q2, q3, q4, q5⟩, fe⟩ := thr_fin fr0 fb0 fr1 fb1 fr2 fb2
    obtain ⟨r1, rf⟩ := mul_fin fe fin_k2 (by omega) (by omega)
    exact ⟨fd.mono (by omega), rf.mono (by omega)⟩
  · simp only [if_neg hok]
    exact ⟨fin_zero.mono (by omega), fin_zero.mono (by omega)⟩
noncomputable def lwFOrient3C := ct4 EI3 EI3 EI3 EI3 (fun p0 p1 p2 p3 => (I64 p0.1 ∧ I64 p0.2.1 ∧ I64 p0.2.2) ∧ (I64 p1.1 ∧ I64 p1.2.1 ∧ I64 p1.2.2) ∧ (I64 p2.1 ∧ I64 p2.2.1 ∧ I64 p2.2.2) ∧ (I64 p3.1 ∧ I64 p3.2.1 ∧ I64 p3.2.2)) (fun p0 p1 p2 p3 => [.lit (.bool true)])
@[simp] theorem lwFOrient3C_at (a b c : Int) (d e f : Int) (g h i : Int) (j k l : Int) : lwFOrient3C [.agg [.lit (.int .i64 a), .lit (.int .i64 b), .lit (.int .i64 c)], .agg [.lit (.int .i64 d), .lit (.int .i64 e), .lit (.int .i64 f)], .agg [.lit (.int .i64 g), .lit (.int .i64 h), .lit (.int .i64 i)], .agg [.lit (.int .i64 j), .lit (.int .i64 k), .lit (.int .i64 l)]] = ((I64 a ∧ I64 b ∧ I64 c) ∧ (I64 d ∧ I64 e ∧ I64 f) ∧ (I64 g ∧ I64 h ∧ I64 i) ∧ (I64 j ∧ I64 k ∧ I64 l), [.lit (.bool true)]) := ct4_at (a, b, c) (d, e, f) (g, h, i) (j, k, l)
noncomputable def lwFOrient3Tb : List (FuncId × Ct) := [(14, .data toP3C), (24, .data sFOrient3C), (25, .data iFOrient3C), (23, .data sameFC)]
theorem lwFOrient3Tb_ok : TbOK NF Try.prog (tbl lwFOrient3Tb) := tbl_cons (c := .data toP3C) toP3_spec toP3_ok (tbl_cons (c := .data sFOrient3C) sFOrient3_spec sFOrient3_ok (tbl_cons (c := .data iFOrient3C) iFOrient3_spec iFOrient3_ok (tbl_cons (c := .data sameFC) sameF_spec sameF_ok tbl_nil)))
@[simp] theorem lwFOrient3Tb1 : tbl lwFOrient3Tb 14 = some (.data toP3C) := rfl
@[simp] theorem lwFOrient3Tb2 : tbl lwFOrient3Tb 24 = some (.data sFOrient3C) := rfl
@[simp] theorem lwFOrient3Tb3 : tbl lwFOrient3Tb 25 = some (.data iFOrient3C) := rfl
@[simp] theorem lwFOrient3Tb4 : tbl lwFOrient3Tb 23 = some (.data sameFC) := rfl
set_option maxRecDepth 100000 in
set_option maxHeartbeats 4000000 in
theorem lwFOrient3_spec : SpecD NF Try.prog 8 lwFOrient3C := by
  refine rd4 (mf := fun f => false) lwFOrient3Tb_ok (fn := Try.f8) (by kernel_rfl) rfl (by kernel_rfl) (by kernel_rfl) ?_
  rintro ⟨a, b, c⟩ ⟨d, e, f⟩ ⟨g, h, i⟩ ⟨j, k, l⟩ hp
  have hp : (I64 a ∧ I64 b ∧ I64 c) ∧ (I64 d ∧ I64 e ∧ I64 f) ∧ (I64 g ∧ I64 h ∧ I64 i) ∧ (I64 j ∧ I64 k ∧ I64 l) := hp
  show awp _ _ _ _ (start _ ([.agg [.lit (.int .i64 a), .lit (.int .i64 b), .lit (.int .i64 c)], .agg [.lit (.int .i64 d), .lit (.int .i64 e), .lit (.int .i64 f)], .agg [.lit (.int .i64 g), .lit (.int .i64 h), .lit (.int .i64 i)], .agg [.lit (.int .i64 j), .lit (.int .i64 k), .lit (.int .i64 l)]].map .dat) []) (endK _ _ _ (([.lit (.bool true)]).map .dat) [])
  obtain ⟨f1, f2⟩ := FOrient3_fin a b c d e f g h i j k l
  have g1 := sameF_self f1
  have g2 := sameF_self f2
  have ci := iFOrient3C_at a b c d e f g h i j k l
  have cs := sFOrient3C_at a b c d e f g h i j k l
  generalize (if c3 (a, b, c) ∧ c3 (d, e, f) ∧ c3 (g, h, i) ∧ c3 (j, k, l) then (thr (floatOfInt .f64 (a - j)) (crs (floatOfInt .f64 (e - k)) (floatOfInt .f64 (i - l)) (floatOfInt .f64 (f - l)) (floatOfInt .f64 (h - k))) (floatOfInt .f64 (b - k)) (crs (floatOfInt .f64 (f - l)) (floatOfInt .f64 (g - j)) (floatOfInt .f64 (d - j)) (floatOfInt .f64 (i - l))) (floatOfInt .f64 (c - l)) (crs (floatOfInt .f64 (d - j)) (floatOfInt .f64 (h - k)) (floatOfInt .f64 (e - k)) (floatOfInt .f64 (g - j)))) else 0) = X at *
  generalize (if c3 (a, b, c) ∧ c3 (d, e, f) ∧ c3 (g, h, i) ∧ c3 (j, k, l) then (fv .mul .f64 (thr (fabs (floatOfInt .f64 (a - j))) (bth (floatOfInt .f64 (e - k)) (floatOfInt .f64 (i - l)) (floatOfInt .f64 (f - l)) (floatOfInt .f64 (h - k))) (fabs (floatOfInt .f64 (b - k))) (bth (floatOfInt .f64 (f - l)) (floatOfInt .f64 (g - j)) (floatOfInt .f64 (d - j)) (floatOfInt .f64 (i - l))) (fabs (floatOfInt .f64 (c - l))) (bth (floatOfInt .f64 (d - j)) (floatOfInt .f64 (h - k)) (floatOfInt .f64 (e - k)) (floatOfInt .f64 (g - j)))) 4382002437431492608) else 0) = Y at *
  generalize (if c3 (a, b, c) ∧ c3 (d, e, f) ∧ c3 (g, h, i) ∧ c3 (j, k, l) then sur (thr (floatOfInt .f64 (a - j)) (crs (floatOfInt .f64 (e - k)) (floatOfInt .f64 (i - l)) (floatOfInt .f64 (f - l)) (floatOfInt .f64 (h - k))) (floatOfInt .f64 (b - k)) (crs (floatOfInt .f64 (f - l)) (floatOfInt .f64 (g - j)) (floatOfInt .f64 (d - j)) (floatOfInt .f64 (i - l))) (floatOfInt .f64 (c - l)) (crs (floatOfInt .f64 (d - j)) (floatOfInt .f64 (h - k)) (floatOfInt .f64 (e - k)) (floatOfInt .f64 (g - j)))) (fv .mul .f64 (thr (fabs (floatOfInt .f64 (a - j))) (bth (floatOfInt .f64 (e - k)) (floatOfInt .f64 (i - l)) (floatOfInt .f64 (f - l)) (floatOfInt .f64 (h - k))) (fabs (floatOfInt .f64 (b - k))) (bth (floatOfInt .f64 (f - l)) (floatOfInt .f64 (g - j)) (floatOfInt .f64 (d - j)) (floatOfInt .f64 (i - l))) (fabs (floatOfInt .f64 (c - l))) (bth (floatOfInt .f64 (d - j)) (floatOfInt .f64 (h - k)) (floatOfInt .f64 (e - k)) (floatOfInt .f64 (g - j)))) 4382002437431492608) else 2) = Z at *
  simp [-D.isLit, -iFOrient3C_at, -sFOrient3C_at, -sameFC_at, Try.f8, ci, cs, g1, g2]
theorem lwFOrient3_calls (a b c d e f g h i j k l : Int) (ha : (Lit.int .i64 a).wf = true) (hb : (Lit.int .i64 b).wf = true) (hc : (Lit.int .i64 c).wf = true) (hd : (Lit.int .i64 d).wf = true) (he : (Lit.int .i64 e).wf = true) (hf : (Lit.int .i64 f).wf = true) (hg : (Lit.int .i64 g).wf = true) (hh : (Lit.int .i64 h).wf = true) (hi : (Lit.int .i64 i).wf = true) (hj : (Lit.int .i64 j).wf = true) (hk : (Lit.int .i64 k).wf = true) (hl : (Lit.int .i64 l).wf = true) (w : World) :
    Calls Try.prog 8 #[.agg #[.int .i64 a, .int .i64 b, .int .i64 c], .agg #[.int .i64 d, .int .i64 e, .int .i64 f], .agg #[.int .i64 g, .int .i64 h, .int .i64 i], .agg #[.int .i64 j, .int .i64 k, .int .i64 l]] w fun e w' => e = .returned (.bool true) ∧ Below w.heap.size w w' :=
  law_calls lwFOrient3_spec (ds := [.agg [.lit (.int .i64 a), .lit (.int .i64 b), .lit (.int .i64 c)], .agg [.lit (.int .i64 d), .lit (.int .i64 e), .lit (.int .i64 f)], .agg [.lit (.int .i64 g), .lit (.int .i64 h), .lit (.int .i64 i)], .agg [.lit (.int .i64 j), .lit (.int .i64 k), .lit (.int .i64 l)]]) (by rw [lwFOrient3C_at]; exact ⟨⟨wf64 ha, wf64 hb, wf64 hc⟩, ⟨wf64 hd, wf64 he, wf64 hf⟩, ⟨wf64 hg, wf64 hh, wf64 hi⟩, ⟨wf64 hj, wf64 hk, wf64 hl⟩⟩) (by rw [lwFOrient3C_at]; rfl) (vs := [.agg #[.int .i64 a, .int .i64 b, .int .i64 c], .agg #[.int .i64 d, .int .i64 e, .int .i64 f], .agg #[.int .i64 g, .int .i64 h, .int .i64 i], .agg #[.int .i64 j, .int .i64 k, .int .i64 l]]) (repVs_cons (repV_flat (cs := [.int .i64 a, .int .i64 b, .int .i64 c]) rfl (fun v hv => by simp at hv; rcases hv with rfl | rfl | rfl <;> rfl) rfl) (repVs_cons (repV_flat (cs := [.int .i64 d, .int .i64 e, .int .i64 f]) rfl (fun v hv => by simp at hv; rcases hv with rfl | rfl | rfl <;> rfl) rfl) (repVs_cons (repV_flat (cs := [.int .i64 g, .int .i64 h, .int .i64 i]) rfl (fun v hv => by simp at hv; rcases hv with rfl | rfl | rfl <;> rfl) rfl) (repVs_cons (repV_flat (cs := [.int .i64 j, .int .i64 k, .int .i64 l]) rfl (fun v hv => by simp at hv; rcases hv with rfl | rfl | rfl <;> rfl) rfl) repVs_nil))))
end Go.Proofs.Ytcgolmopbnhgeaa.Ae
