/- Texts put together, in the order in which they build: L27, L28, L29, L30, L31, L32, L33, L34, L35, L36, L37, L38, L39, L40, L41, L50, L51, L52, L53, L54, L55, L56, L57, L58, L59, L60, L61, L62, Q1, L63, L64, S1, S2, L65. No condition. -/
import Derived.Test.YtdkgkcnllhcamaaGreatZ3
set_option linter.unusedVariables false
set_option linter.unusedSimpArgs false
/-! spec.l1MagDiv: what one round of the loop comes to, in numbers. No condition. -/
namespace Go.Proofs.YtdkgkcnllhcamaaGreat.Ae
open Go Go.RowKit Go.Proofs.YtdkgkcnllhcamaaGreat.Dig

/-- A slice with another number in a part, digit by digit. -/
theorem put_of {us os : List Nat} {k n d x : Nat} (hos : Digs os) (hd : d < B) (hl : os.length = n) (hk : k + n < us.length) (hv : val os + B ^ n * d = x) : us.take k ++ os ++ d :: us.drop (k + n + 1) = put us k (n + 1) x := by
  unfold put
  rw [dig_of (hos.append (Digs.nil.cons hd)) (by simp [hl]) (by rw [val_snoc, hl]; exact hv)]
  simp only [List.append_assoc, List.singleton_append, ← Nat.add_assoc]
theorem top_lt {os : List Nat} {n d : Nat} (hos : Digs os) (hd : d < B) (hl : os.length = n) : val os + B ^ n * d < B ^ (n + 1) := by
  have h1 := val_lt (hos.append (Digs.nil.cons hd))
  rw [val_snoc, List.length_append, List.length_singleton, hl] at h1
  exact h1
/-- What is taken, from the digits. -/
theorem taken {us os vs : List Nat} {k n d c b b' u0 g : Nat} (hos : Digs os) (hol : os.length = n) (hkn : k + n < us.length) (hu0 : u0 = us.getD (k + n) 0) (hsub : d + c + b = u0 + B * b') (hv : val os + g * val vs = val (part us k n) + B ^ n * (b + c)) :
    (val os + B ^ n * d) + g * val vs = val (part us k (n + 1)) + B ^ (n + 1) * b' := by
  rw [part_snoc us k n (by omega), val_snoc, part_len us k n (by omega), ← hu0, Nat.pow_succ, Nat.mul_assoc]
  have h1 := congrArg (B ^ n * ·) hsub
  simp only [Nat.mul_add] at h1 hv
  omega
/-- What is given back, from the digits. -/
theorem given {us os vs : List Nat} {k n d c e x : Nat} (hos : Digs os) (hd : d < B) (hol : os.length = n) (hkn : k + n < us.length) (hx : x = us.getD (k + n) 0) (hcut : d + B * e = x + c) (hv : val os + B ^ n * c = val (part us k n) + val vs) :
    val os + B ^ n * d = (val (part us k (n + 1)) + val vs) % B ^ (n + 1) := by
  have h0 := top_lt hos hd hol
  have h2 : (val os + B ^ n * d) + B ^ (n + 1) * e = val (part us k (n + 1)) + val vs := by
    rw [part_snoc us k n (by omega), val_snoc, part_len us k n (by omega), ← hx, Nat.pow_succ, Nat.mul_assoc]
    have h1 := congrArg (B ^ n * ·) hcut
    simp only [Nat.mul_add] at h1 hv
    omega
  rw [← h2, Nat.add_mul_mod_self_left, Nat.mod_eq_of_lt h0]
/-- The end of a round: a part of the dividend gives way to its rest. -/
theorem round_end {us us2 : List Nat} {k np V W q : Nat} (h1 : Digs us2) (h2 : us2.length = us.length) (hV0 : 0 < V) (h3 : q = W / V) (hz : val (us.drop (k + np)) = 0) (h4 : val us2 + B ^ k * W = val us + B ^ k * (W % V)) (h5 : val (us2.drop k) = W % V + B ^ np * val (us.drop (k + np))) :
    val (us2.drop k) < V ∧ val us2 + V * B ^ k * q = val us := by
  refine ⟨by rw [h5, hz, Nat.mul_zero, Nat.add_zero]; exact Nat.mod_lt _ hV0, ?_⟩
  have h6 := Nat.div_add_mod W V
  rw [← h3] at h6
  have h7 := congrArg (B ^ k * ·) h6
  simp only [Nat.mul_add] at h7
  have h8 : V * B ^ k * q = B ^ k * (V * q) := by simp only [Nat.mul_assoc, Nat.mul_comm, Nat.mul_left_comm]
  rw [h8]
  omega
theorem round0 {us : List Nat} {k np V W g X : Nat} (hus : Digs us) (hk : k + np ≤ us.length) (hW : W = val (part us k np)) (hV0 : 0 < V) (hWM : W < B ^ np) (hVM : V ≤ B ^ np) (hz : val (us.drop (k + np)) = 0) (hWg : W / V ≤ g) (hgW : g ≤ W / V + 1) (hXB : X < B ^ np) (hX : X + g * V = W) :
    Digs (put us k np X) ∧ (put us k np X).length = us.length ∧ val ((put us k np X).drop k) < V ∧ val (put us k np X) + V * B ^ k * g = val us := by
  obtain ⟨f1, f2⟩ := (rest_of hV0 hWM hVM hWg hgW).2 (by omega)
  obtain ⟨a1, a2, a3, a4, a5⟩ := put_val hus hk hXB
  have hX2 : X = W % V := by omega
  rw [← hW] at a3
  rw [hX2] at a1 a2 a3 a4 ⊢
  obtain ⟨r1, r2⟩ := round_end a1 a2 hV0 f1 hz a3 a4
  exact ⟨a1, a2, r1, r2⟩
theorem round1 {us : List Nat} {k np V W g X : Nat} (hus : Digs us) (hk : k + np ≤ us.length) (hW : W = val (part us k np)) (hV0 : 0 < V) (hWM : W < B ^ np) (hVM : V ≤ B ^ np) (hz : val (us.drop (k + np)) = 0) (hWg : W / V ≤ g) (hgW : g ≤ W / V + 1) (hXB : X < B ^ np) (hX : X + g * V = W + B ^ np) :
    1 ≤ g ∧ Digs (put us k np X) ∧ (put us k np X).length = us.length ∧ ∀ Y, Y = (val (part (put us k np X) k np) + V) % B ^ np → Digs (put (put us k np X) k np Y) ∧ (put (put us k np X) k np Y).length = us.length ∧ val ((put (put us k np X) k np Y).drop k) < V ∧ val (put (put us k np X) k np Y) + V * B ^ k * (g - 1) = val us := by
  have hWV : W < g * V := by omega
  obtain ⟨f1, f2⟩ := (rest_of hV0 hWM hVM hWg hgW).1 hWV
  obtain ⟨a1, a2, a3, a4, a5⟩ := put_val hus hk hXB
  have hX2 : W + B ^ np - g * V = X := by omega
  rw [hX2] at f2
  have hg0 : 1 ≤ g := by
    rcases Nat.eq_zero_or_pos g with h | h
    · rw [h, Nat.zero_mul] at hWV; omega
    · exact h
  refine ⟨hg0, a1, a2, ?_⟩
  rintro Y hY
  rw [a5, val_dig np _ hXB, f2] at hY
  have hYB : Y < B ^ np := by rw [hY]; exact Nat.lt_of_lt_of_le (Nat.mod_lt _ hV0) hVM
  obtain ⟨b1, b2, b3, b4, b5⟩ := put_val a1 (by omega : k + np ≤ (put us k np X).length) hYB
  have hdr2 : (put us k np X).drop (k + np) = us.drop (k + np) := by
    unfold put
    have : ∀ (P Q : List Nat), P.length = k + np → (P ++ Q).drop (k + np) = Q := fun P Q h => by rw [← h, List.drop_left]
    exact this _ _ (by rw [List.length_append, dig_len, List.length_take, Nat.min_eq_left (by omega)])
  rw [hdr2] at b4
  rw [a5, val_dig np _ hXB] at b3
  rw [← hW] at a3
  rw [hY] at b1 b2 b3 b4 ⊢
  obtain ⟨r1, r2⟩ := round_end b1 (by omega) hV0 f1 hz (by
    generalize B ^ k * X = z at *
    omega) b4
  exact ⟨b1, by omega, r1, r2⟩
end Go.Proofs.YtdkgkcnllhcamaaGreat.Ae

/-! spec.l1MagDiv: the end of a round of the loop that finds the digits of the quotient. No condition. -/
namespace Go.Proofs.YtdkgkcnllhcamaaGreat.Ae
open Go Go.RowKit Go.Proofs.YtdkgkcnllhcamaaGreat.Dig

def sDvS (s n : Nat) (vs us qs : List Nat) (k : Nat) : St := ⟨[.any, .any, .any, .any, .any, .any, .dat (.lit (.int .u64 s)), .dat (.lit (.int .i64 n)), .row 60, .row 63, .row 69, .dat (.lit (.int .i64 ((k : Int) - 1))), .any, .any, .any, .any, .any, .any, .any, .any, .any, .any, .any, .any, .any, .any, .any, .any, .any, .any, .any, .any, .any, .any, .any, .any, .any, .any, .any, .any, .any, .any, .any, .any, .any, .any, .any, .any, .any, .any, .any, .any, .any, .any, .any, .any, .any, .any, .any, .any, .any, .any, .any, .any, .any, .any, .any, .any, .any, .any, .any, .any, .any, .any, .any, .any, .any, .any, .any, .any, .any, .any, .any, .any, .any, .any, .any, .any, .any, .any, .any, .any, .any, .any, .any, .any, .any, .any, .any, .any, .any, .any, .any, .any, .any, .any, .any, .any, .any, .any, .any, .any, .any, .any, .any, .any, .any, .any, .any, .any, .any, .any, .any, .any, .any, .any, .any, .any, .any, .any, .any, .any, .any, .any, .any, .any, .any, .any, .any, .any, .any, .any, .any, .any, .any, .any, .any, .any, .any, .any, .any, .any, .any, .any, .any, .any, .any, .any, .any, .any, .any, .any, .any, .any, .any, .any, .any, .any, .any, .any, .any, .any, .any, .any, .any, .any, .any, .any, .any, .any, .any, .any, .any, .any, .any, .any, .any, .any, .any, .any, .any, .any, .any, .any, .any, .any, .any, .any, .any, .any, .any, .any, .any, .any, .any, .any, .any, .any, .any, .any, .any, .any, .any, .any, .any, .any, .any, .any, .any, .any, .any, .any, .any, .any, .any, .any, .any, .any, .any, .any, .any, .any, .any, .any, .any, .any, .any, .any, .any, .any, .any, .any, .any, .any, .any, .any, .any, .any, .any, .any, .any, .any, .any, .any, .any, .any, .any, .any, .any, .any, .any, .any, .any, .any, .any, .any, .any, .any, .any, .any, .any, .any, .any, .any, .any, .any, .any, .any, .any, .any, .any, .any, .any, .any, .any, .any, .any, .any, .any, .any, .any, .any, .any, .any, .any, .any, .any, .any, .any, .any, .any], [none, none, none, none, none, none, none, none, none, none, none, none, none, none, none, none, none, none, none, none, none, none, none, none, none, none, none, none, none, none, none, none, none, none, none, none, none, none, none, none, none, none, none, none, none, none, none, none, none, none, none, none, none, none, none, none, none, none, none, none, some (.row 1 72 (vs.map dg)), none, none, some (.row 1 72 (us.map dg)), none, none, none, none, none, some (.row 1 72 (List.replicate k z32 ++ qs.map dg)), none, none, none, none, none, none, none, none, none, none, none, none, none, none, none, none, none, none, none, none, none, none, none, none, none, none, none, none, none, none, none, none, none, none, none, none, none, none, none, none, none, none, none, none, none, none, none, none, none, none, none, none, none, none, none, none, none, none, none, none, none, none, none, none, none, none, none, none, none, none, none, none, none, none, none, none, none, none, none, none, none, none, none, none, none, none, none, none, none, none, none, none, none, none, none, none, none, none, none, none, none, none, none, none, none, none, none, none, none, none, none, none, none, none, none, none, none, none, none, none, none, none, none, none, none, none, none, none, none, none, none, none, none, none, none, none, none, none, none, none, none, none, none, none, none, none, none, none, none, none, none, none, none, none, none, none, none, none, none, none, none, none, none, none, none, none, none, none, none, none, none, none, none, none, none, none, none, none, none, none, none, none, none, none, none, none, none, none, none, none, none, none, none, none, none, none, none, none, none, none, none, none, none, none, none, none, none, none, none, none, none, none, none, none, none, none, none, none, none, none, none, none, none, none, none, none, none, none, none, none, none]⟩
def sDv4 (s n : Nat) (vs us qs : List Nat) (k g r m : Nat) : St := ⟨[.any, .any, .any, .any, .any, .any, .dat (.lit (.int .u64 s)), .dat (.lit (.int .i64 n)), .row 60, .row 63, .row 69, .dat (.lit (.int .i64 k)), .any, .dat (.lit (.int .u64 g)), .dat (.lit (.int .u64 r)), .dat (.lit (.int .i64 m)), .any, .any, .any, .any, .any, .any, .any, .any, .any, .any, .any, .any, .any, .any, .any, .any, .any, .any, .any, .any, .any, .any, .any, .any, .any, .any, .any, .any, .any, .any, .any, .any, .any, .any, .any, .any, .any, .any, .any, .any, .any, .any, .any, .any, .any, .any, .any, .any, .any, .any, .any, .any, .any, .any, .any, .any, .any, .any, .any, .any, .any, .any, .any, .any, .any, .any, .any, .any, .any, .any, .any, .any, .any, .any, .any, .any, .any, .any, .any, .any, .any, .any, .any, .any, .any, .any, .any, .any, .any, .any, .any, .any, .any, .any, .any, .any, .any, .any, .any, .any, .any, .any, .any, .any, .any, .any, .any, .any, .any, .any, .any, .any, .any, .any, .any, .any, .any, .any, .any, .any, .any, .any, .any, .any, .any, .any, .any, .any, .any, .any, .any, .any, .any, .any, .any, .any, .any, .any, .any, .any, .any, .any, .any, .any, .any, .any, .any, .any, .any, .any, .any, .any, .any, .any, .any, .any, .any, .any, .any, .any, .any, .any, .any, .any, .any, .any, .any, .any, .any, .any, .any, .any, .any, .any, .any, .any, .any, .any, .any, .any, .any, .any, .any, .any, .any, .any, .any, .any, .any, .any, .any, .any, .any, .any, .any, .any, .any, .any, .any, .any, .any, .any, .any, .any, .any, .any, .any, .any, .any, .any, .any, .any, .any, .any, .any, .any, .any, .any, .any, .any, .any, .any, .any, .any, .any, .any, .any, .any, .any, .any, .any, .any, .any, .any, .any, .any, .any, .any, .any, .any, .any, .any, .any, .any, .any, .any, .any, .any, .any, .any, .any, .any, .any, .any, .any, .any, .any, .any, .any, .any, .any, .any, .any, .any, .any, .any, .any, .any, .any, .any, .any, .any, .any, .any, .any, .any, .any, .any, .any, .any, .any, .any, .any, .any, .any], [none, none, none, none, none, none, none, none, none, none, none, none, none, none, none, none, none, none, none, none, none, none, none, none, none, none, none, none, none, none, none, none, none, none, none, none, none, none, none, none, none, none, none, none, none, none, none, none, none, none, none, none, none, none, none, none, none, none, none, none, some (.row 1 72 (vs.map dg)), none, none, some (.row 1 72 (us.map dg)), none, none, none, none, none, some (.row 1 72 (List.replicate (k + 1) z32 ++ qs.map dg)), none, none, none, none, none, none, none, none, none, none, none, none, none, none, none, none, none, none, none, none, none, none, none, none, none, none, none, none, none, none, none, none, none, none, none, none, none, none, none, none, none, none, none, none, none, none, none, none, none, none, none, none, none, none, none, none, none, none, none, none, none, none, none, none, none, none, none, none, none, none, none, none, none, none, none, none, none, none, none, none, none, none, none, none, none, none, none, none, none, none, none, none, none, none, none, none, none, none, none, none, none, none, none, none, none, none, none, none, none, none, none, none, none, none, none, none, none, none, none, none, none, none, none, none, none, none, none, none, none, none, none, none, none, none, none, none, none, none, none, none, none, none, none, none, none, none, none, none, none, none, none, none, none, none, none, none, none, none, none, none, none, none, none, none, none, none, none, none, none, none, none, none, none, none, none, none, none, none, none, none, none, none, none, none, none, none, none, none, none, none, none, none, none, none, none, none, none, none, none, none, none, none, none, none, none, none, none, none, none, none, none, none, none, none, none, none, none, none, none, none, none, none, none, none, none, none, none, none, none, none, none]⟩

noncomputable def sdT : Code := sq2 (sq2 (sq2 (sq2 (sq2 (sq2 (sq2 sdX))))))
noncomputable def sdZ : Code := sq2 (sq2 sdM)

set_option maxRecDepth 100000 in
set_option maxHeartbeats 4000000 in
theorem sDiv_end {s n V k g W u0 : Nat} {us qs : List Nat} (hVl : (mag V).length = n) (hus : Digs us) (hul : us.length < 2 ^ 41) (hkn : k + n < us.length) (hu0 : u0 = us.getD (k + n) 0) (hgB : g < 4294967296) (hW : W = val (part us k (n + 1))) (hV0 : 0 < V) (hVM : V ≤ B ^ (n + 1)) (hz : val (us.drop (k + (n + 1))) = 0) (hWg : W / V ≤ g) (hgW : g ≤ W / V + 1) (hgs : g - 1 = g - 1)
    (KN : St → Prop) (K : Exit → St → Prop) (hN : ∀ us' q, Digs us' → us'.length = us.length → val (us'.drop k) < V → q ≤ g → val us' + V * B ^ k * q = val us → ∀ s', Snd s' (sDvS s n (mag V) us' (q :: qs) k) → KN s')
    (st : St) (h0 : Snd st (sDv6 s n (mag V) us qs k g 0 0 0)) :
    awp Tryz.prog sDivMf (tbl sDivTb) (.loop sdL6) st (Kblk 6 (Kseq Tryz.prog sDivMf (tbl sDivTb) sdT (Kblk 3 (Kseq Tryz.prog sDivMf (tbl sDivTb) sdZ (Klp KN K))))) := by
  have hVm : val (mag V) = V := val_mag V
  have hWM : W < B ^ (n + 1) := by rw [hW]; have := val_lt (part_digs hus k (n + 1)); rwa [part_len us k (n + 1) (by omega)] at this
  refine sSub6 (mag_digs V) hus hVl hkn hul hgB st h0 _ ?_
  intro os c b hos hol hcB hbB hv Z hZ
  have hu0B : u0 < 4294967296 := by rw [hu0]; exact getD_lt hus _
  obtain ⟨t1, t2, b', d, hdB, hb', hsub, q5, q6, q7, q8⟩ := bor64b u0 c b hu0B hcB hbB
  have hX := taken hos hol hkn hu0 hsub hv
  have hXB := top_lt hos hdB hol
  rw [hVm, ← hW] at hX
  obtain ⟨kn, hkn1⟩ : ∃ x, x = k + n := ⟨_, rfl⟩
  have hkd : us.drop (k + n) = u0 :: us.drop (k + n + 1) := by rw [hu0]; exact drop_cons hkn
  have hLl : (us.take k ++ os).length = kn := by simp; omega
  have e1 := ix_at (us.take k ++ os) (us.drop (k + n + 1)) u0
  have e2 := lset_at (us.take k ++ os) (us.drop (k + n + 1)) u0 d
  rw [← hkd, ← hZ, hLl] at e1
  rw [← hkd, ← hZ, hLl] at e2
  have hZl : Z.length = us.length := by rw [hZ, List.length_append, hLl, List.length_drop]; omega
  have hus1 := put_of (us := us) (k := k) hos hdB hol hkn rfl
  rw [hus1] at e2
  generalize val os + B ^ n * d = X at hX hXB e2
  have z0 : IntKind.u64.wrap (u0 : Int) = u0 := by rw [wrap_u64]; omega
  have z5 : kn < Z.length := by omega
  have p1 : IntKind.i64.wrap ((k : Int) + n) = kn := by rw [wrap_i64]; omega
  have p11 : IntKind.i64.wrap ((k : Int) - 1) = (k : Int) - 1 := by rw [wrap_i64]; omega
  have hk1 : (k : Int) < k + 1 + qs.length := by omega
  have hknp : k + (n + 1) ≤ us.length := by omega
  clear hus1 hkd hLl hZ hsub hv hos
  simp only [kseq_n]
  rcases Nat.le_one_iff_eq_zero_or_eq_one.1 hb' with rfl | rfl
  · rw [Nat.mul_zero, Nat.add_zero] at hX
    obtain ⟨a1, a2, a3, a4⟩ := round0 hus hknp hW hV0 hWM hVM hz hWg hgW hXB hX
    have hfin := hN _ g a1 a2 a3 (Nat.le_refl _) a4
    generalize put us k (n + 1) X = us1 at *
    have z1 : IntKind.u32.wrap (g : Int) = g := by rw [wrap_u32]; omega
    clear a3 a4 hN hXB hX hWg hgW hz hVM hWM hW hV0
    simp at q8
    simp only [sdT, sdZ, sdX, sdM, sdB, Tryz.f37, Option.getD, sq1, sq2, inB, inL, inC]
    simp [sDe6, p1, e1, e2, dg, z0, z1, z5, q5, q6, q7, q8, p11, hk1, ix_rev, lset_rev]
    exact hfin _ (snd_of (by simp [LeT, sDvS]) (by simp [sDvS, dg]))
  · rw [Nat.mul_one] at hX
    obtain ⟨hg1, a1, a2, a3⟩ := round1 hus hknp hW hV0 hWM hVM hz hWg hgW hXB hX
    have hN1 := fun us' => hN us' (g - 1)
    have hg2 : g - 1 ≤ g := by omega
    have hg3 : g - 1 < 4294967296 := by omega
    have z2 : IntKind.u64.wrap ((g : Int) - 1) = ((g - 1 : Nat) : Int) := by rw [wrap_u64]; omega
    clear hN hXB hX hWg hgW hz hVM hWM hW hV0
    generalize put us k (n + 1) X = us1 at *
    generalize g - 1 = gm at *
    have h8 := fun st h0 K hK => sAdd8 (s := s) (n := n) (vs := mag V) (us := us1) (qs := qs) (k := k) (g := gm) (mag_digs V) a1 hVl (by omega) (by omega) st h0 K hK
    simp at q8
    simp only [sdT, sdZ, sdL8, sdX, sdM, sdB, Tryz.f37, Option.getD, sq1, sq2, inB, inL, inC] at h8 ⊢
    simp [sDe6, p1, e1, e2, dg, z0, z2, z5, q5, q6, q7, q8]
    refine h8 _ (snd_of (by simp [LeT, sDv8]) (by simp [sDv8])) _ ?_
    clear h8 e1 e2 q5 q6 q7 q8 z0 z2
    intro os2 c2 hos2 hol2 hc2 hv2 Z2 hZ2
    obtain ⟨x1, hx1⟩ : ∃ x1, x1 = us1.getD (k + n) 0 := ⟨_, rfl⟩
    have hx1B : x1 < 4294967296 := by rw [hx1]; exact getD_lt a1 _
    obtain ⟨c3, d2, hd2B, hcut2, w1, _⟩ := cut32 ((x1 : Int) + c2) (x1 + c2) (by omega)
    have hkn2 : k + n < us1.length := by omega
    have hY := given hos2 hd2B hol2 hkn2 hx1 hcut2 hv2
    rw [hVm] at hY
    have hkd1 : us1.drop (k + n) = x1 :: us1.drop (k + n + 1) := by rw [hx1]; exact drop_cons hkn2
    have hLl2 : (us1.take k ++ os2).length = kn := by simp; omega
    have e3 := ix_at (us1.take k ++ os2) (us1.drop (k + n + 1)) x1
    have e4 := lset_at (us1.take k ++ os2) (us1.drop (k + n + 1)) x1 d2
    rw [← hkd1, ← hZ2, hLl2] at e3
    rw [← hkd1, ← hZ2, hLl2] at e4
    have hZl2 : Z2.length = us.length := by rw [hZ2, List.length_append, hLl2, List.length_drop]; omega
    have hus2 := put_of (us := us1) (k := k) hos2 hd2B hol2 hkn2 rfl
    rw [hus2] at e4
    obtain ⟨b1, b2, b3, b4⟩ := a3 _ hY
    have hfin := hN1 _ b1 b2 b3 hg2 b4
    have z3 : IntKind.u32.wrap (gm : Int) = gm := by rw [wrap_u32]; omega
    have z4 : IntKind.u32.wrap (c2 : Int) = c2 := by rw [wrap_u32]; omega
    have z6 : kn < Z2.length := by omega
    generalize val os2 + B ^ n * d2 = Y at *
    generalize put us1 k (n + 1) Y = us2 at *
    clear a3 hus2 hkd1 hLl2 hZ2 hcut2 hv2 hos2 hN1
    simp [sDe8, p1, e3, e4, dg, z3, z4, z6, w1, p11, hk1, ix_rev, lset_rev]
    exact hfin _ (snd_of (by simp [LeT, sDvS]) (by simp [sDvS, dg]))
end Go.Proofs.YtdkgkcnllhcamaaGreat.Ae

/-! spec.l1MagDiv: the loop that finds the digits of the quotient. No condition. -/
namespace Go.Proofs.YtdkgkcnllhcamaaGreat.Ae
open Go Go.RowKit Go.Proofs.YtdkgkcnllhcamaaGreat.Dig


set_option maxRecDepth 100000 in
set_option maxHeartbeats 4000000 in
theorem sDiv_step {s n n1 V top k la : Nat} {us qs : List Nat} (hn2 : 2 ≤ n) (hn1 : n - 1 = n1) (hVl : (mag V).length = n1 + 1) (htop : top = (mag V).getD n1 0) (hVt : 2147483648 ≤ top) (htB : top < 4294967296) (hla : la < 2 ^ 40) (hus : Digs us) (hul : us.length = la + 1) (hkk : k + 1 + n ≤ la + 1) (hdr : val (us.drop (k + 1)) < V)
    (KN : St → Prop) (K : Exit → St → Prop) (hN : ∀ us' q, Digs us' → us'.length = la + 1 → q < B → val (us'.drop k) < V → val us' + V * B ^ k * q = val us → ∀ s', Snd s' (sDvS s n (mag V) us' (q :: qs) k) → KN s') :
    awp Tryz.prog sDivMf (tbl sDivTb) sdM (sDvS s n (mag V) us qs (k + 1)) (Klp KN K) := by
  simp only [sdX, sdM, sdB, Tryz.f37, Option.getD, sq1, sq2, inB, inL, inC]
  obtain ⟨n2, hn2'⟩ : ∃ n2, n = n2 + 2 := ⟨n - 2, by omega⟩
  have hkn : k + (n + 1) ≤ us.length := by omega
  obtain ⟨kn, hkn1⟩ : ∃ x, x = k + n := ⟨_, rfl⟩
  obtain ⟨kn1, hkn2⟩ : ∃ x, x = k + n2 + 1 := ⟨_, rfl⟩
  obtain ⟨kn2, hkn3⟩ : ∃ x, x = k + n2 := ⟨_, rfl⟩
  obtain ⟨knp, hkn4⟩ : ∃ x, x = k + n + 1 := ⟨_, rfl⟩
  obtain ⟨np, hnp⟩ : ∃ x, x = n + 1 := ⟨_, rfl⟩
  have p1 : IntKind.i64.wrap ((k : Int) + n) = kn := by rw [wrap_i64]; omega
  have p2 : IntKind.i64.wrap ((kn : Int) - 1) = kn1 := by rw [wrap_i64]; omega
  have p3 : IntKind.i64.wrap ((kn : Int) - 2) = kn2 := by rw [wrap_i64]; omega
  have p4 : IntKind.i64.wrap ((kn : Int) + 1) = knp := by rw [wrap_i64]; omega
  have p5 : ((knp : Int) - k).toNat = np := by omega
  obtain ⟨u0, hu0⟩ : ∃ x, x = us.getD kn 0 := ⟨_, rfl⟩
  obtain ⟨u1, hu1⟩ : ∃ x, x = us.getD kn1 0 := ⟨_, rfl⟩
  obtain ⟨u2, hu2⟩ : ∃ x, x = us.getD kn2 0 := ⟨_, rfl⟩
  obtain ⟨v2, hv2⟩ : ∃ x, x = (mag V).getD n2 0 := ⟨_, rfl⟩
  have hu0B : u0 < 4294967296 := by rw [hu0]; exact getD_lt hus _
  have hu1B : u1 < 4294967296 := by rw [hu1]; exact getD_lt hus _
  have hu2B : u2 < 4294967296 := by rw [hu2]; exact getD_lt hus _
  have hv2B : v2 < 4294967296 := by rw [hv2]; exact getD_lt (mag_digs V) _
  have i0 := ix_dg us kn (by omega)
  have i1 := ix_dg us kn1 (by omega)
  have i2 := ix_dg us kn2 (by omega)
  have i3 := ix_dg (mag V) n2 (by omega)
  rw [← hu0] at i0
  rw [← hu1] at i1
  rw [← hu2] at i2
  rw [← hv2] at i3
  obtain ⟨W, hW⟩ : ∃ W, W = val (part us k np) := ⟨_, rfl⟩
  have hnp2 : np = n2 + 3 := by omega
  have hVlt : V < B ^ n := mag_lt.1 (by omega)
  have hpt := part_lt hus (by omega : k < us.length) hVlt hdr
  rw [← hnp, ← hW] at hpt
  have kk : Kn W V (B ^ n2) top v2 u0 u1 u2 := by
    have := kn_of hus (by omega : k + (n2 + 3) ≤ us.length) (by omega : (mag V).length = n2 + 2) (top := top) (by rw [htop]; congr 1; omega) (by omega) (by rw [← hnp2, ← hW]; exact hpt.2.2)
    rw [← hnp2, ← hW, ← hv2] at this
    have e0 : k + n2 + 2 = kn := by omega
    rw [e0, ← hkn2, ← hkn3, ← hu0, ← hu1, ← hu2] at this
    exact this
  obtain ⟨head, hhead⟩ : ∃ h, h = u1 + B * u0 := ⟨_, rfl⟩
  have t1 : IntKind.u64.wrap (u0 : Int) = u0 := by rw [wrap_u64]; omega
  have t2 : IntKind.u64.wrap ((u0 : Int) * 4294967296) = (u0 : Int) * 4294967296 := by rw [wrap_u64]; omega
  have t3 : IntKind.u64.wrap (u1 : Int) = u1 := by rw [wrap_u64]; omega
  have t4 : bOr .u64 ((u0 : Int) * 4294967296) u1 = head := by
    have := bOr64 (u0 * 4294967296) u1 (by omega) (by omega)
    rw [or_cut u0 u1 hu1B] at this
    have e : u0 * 4294967296 + u1 = head := by rw [hhead]; simp only [B]; omega
    rw [e] at this
    rw [← this]; congr 1
  have hheadB : head < 18446744073709551616 := by rw [hhead]; simp only [B]; omega
  have ht0 : 0 < top := by omega
  obtain ⟨g0, hg0⟩ : ∃ g, g = head / top := ⟨_, rfl⟩
  obtain ⟨r0, hr0⟩ : ∃ g, g = head % top := ⟨_, rfl⟩
  have t5 := tdiv_nat head top
  rw [← hg0] at t5
  have t6 := tmod_nat head top
  rw [← hr0] at t6
  have hg0B : g0 < 17179869184 := by
    rw [hg0, Nat.div_lt_iff_lt_mul ht0]
    have : 17179869184 * 2147483648 ≤ 17179869184 * top := Nat.mul_le_mul_left _ hVt
    omega
  have hr0B : r0 < top := by rw [hr0]; exact Nat.mod_lt _ ht0
  have t7 : IntKind.u64.wrap (g0 : Int) = g0 := by rw [wrap_u64]; omega
  have t8 : ¬ top = 0 := by omega
  have t9 : (kn1 : Int) < us.length := by omega
  have t10 : (kn : Int) < us.length := by omega
  have p14 : IntKind.i64.wrap ((n : Int) - 1) = n1 := by rw [wrap_i64]; omega
  have i4 := ix_dg (mag V) n1 (by omega)
  rw [← htop] at i4
  have t11 : IntKind.u64.wrap (top : Int) = top := by rw [wrap_u64]; omega
  have t12 : IntKind.u64.wrap (r0 : Int) = r0 := by rw [wrap_u64]; omega
  have t13 : n1 < (mag V).length := by omega
  simp [sDvS, p1, p2, p14, i0, i1, i4, dg, t1, t2, t3, t4, t5, t6, t7, t8, t9, t10, t11, t12, t13]
  have hVm : val (mag V) = V := val_mag V
  have hV0 := kk.Vpos
  have p6 : (k : Int) ≤ knp := by omega
  have p7 : (knp : Int) ≤ us.length := by omega
  have p8 : k + np ≤ us.length := by omega
  have p9 : 0 < us.length := by omega
  have p10 : 0 < np := by omega
  have p11 : IntKind.i64.wrap ((k : Int) - 1) = (k : Int) - 1 := by rw [wrap_i64]; omega
  have p12 : IntKind.i64.wrap ((n : Int) - 2) = n2 := by rw [wrap_i64]; omega
  have p13 : (kn2 : Int) < us.length := by omega
  have hnV : (mag V).length < np := by omega
  have hVn : (mag V).length ≤ np := by omega
  have hul41 : us.length < 2 ^ 41 := by omega
  have hWM : W < B ^ np := by rw [hW]; have := val_lt (part_digs hus k np); rwa [part_len us k np p8] at this
  have hVM : V ≤ B ^ np := Nat.le_trans (Nat.le_of_lt hVlt) (Nat.pow_le_pow_right B_pos (by omega))
  have hz : val (us.drop (k + np)) = 0 := hpt.2.1
  have hN2 : ∀ g, W / V ≤ g → g < 4294967296 → ∀ us' q, Digs us' → us'.length = us.length → val (us'.drop k) < V → q ≤ g → val us' + V * B ^ k * q = val us → ∀ s', Snd s' (sDvS s n (mag V) us' (q :: qs) k) → KN s' := by
    intro g _ hgB us' q h1 h2 h3 h4 h5 s' hs
    exact hN us' q h1 (by omega) (by simp only [B]; omega) h3 h5 s' hs
  have hen := fun g hgB hWg hgW st h0 => sDiv_end (s := s) (n := n) (V := V) (k := k) (g := g) (W := W) (u0 := u0) (us := us) (qs := qs) (by omega) hus hul41 (by omega) (by rw [hu0, hkn1]) hgB (by rw [hW, hnp]) hV0 (by rw [← hnp]; exact hVM) (by rw [← hnp]; exact hz) hWg hgW rfl KN K (hN2 g hWg hgB) st h0
  clear hN2 hN
  simp only [sdL6, sdT, sdZ, sdX, sdM, sdB, Tryz.f37, Option.getD, sq1, sq2, inB, inL, inC] at hen
  refine loop_go (fun m st => ∃ g r j : Nat, g * top + r = head ∧ W / V ≤ g ∧ m = g ∧ g < 17179869184 ∧ r < 8589934592 ∧ j * top ≤ r ∧ j ≤ 2 ∧ st = sDv4 s n (mag V) us qs k g r j) (s0 := sDv4 s n (mag V) us qs k g0 r0 0) (n := g0)
    (snd_of (by simp [LeT, sDv4]) (by simp [sDv4])) ⟨g0, r0, 0, by rw [hg0, hr0, Nat.mul_comm]; exact Nat.div_add_mod _ _, by rw [hg0, hhead]; exact kk.start, rfl, hg0B, by omega, by omega, by omega, rfl⟩ ?_
  rintro g st ⟨_, r, j, hgr, hWg, rfl, hgB, hrB, hjr, hj2, rfl⟩ KM hM
  rw [hhead] at hgr
  clear t5 t6 t7 t1 t2 t3 t4 hg0 hr0 hg0B hr0B t12
  have y1 : IntKind.u64.wrap (v2 : Int) = v2 := by rw [wrap_u64]; omega
  have y2 : IntKind.u64.wrap (u2 : Int) = u2 := by rw [wrap_u64]; omega
  have y0 : (j : Int) < 3 := by omega
  have y8 : IntKind.i64.wrap ((j : Int) + 1) = j + 1 := by rw [wrap_i64]; omega
  have hdec : r < B → (B ≤ g ∨ r * B + u2 < g * v2) → IntKind.u64.wrap ((g : Int) - 1) = ((g - 1 : Nat) : Int) ∧ IntKind.u64.wrap ((r : Int) + top) = ((r + top : Nat) : Int) ∧ ∀ s', Snd s' (sDv4 s n (mag V) us qs k (g - 1) (r + top) (j + 1)) → KM s' := by
    intro h1 h2
    obtain ⟨h3, h4, h5⟩ := kk.dec hgr hWg h2
    simp only [B] at h1
    have hj1 : j ≤ 1 := by
      rcases Nat.lt_or_ge j 2 with h | h
      · omega
      · have : 2 * top ≤ j * top := Nat.mul_le_mul_right _ h
        omega
    have hj3 : (j + 1) * top ≤ r + top := by rw [Nat.add_mul, Nat.one_mul]; omega
    refine ⟨by rw [wrap_u64]; omega, by rw [wrap_u64]; omega, fun s' hs => hM s' (nx (m := g - 1) hs ⟨g - 1, r + top, j + 1, by rw [hhead]; exact h4, h5, rfl, by omega, by omega, hj3, by omega, rfl⟩ (by omega))⟩
  clear hM
  have hn2V : n2 < (mag V).length := by omega
  by_cases hc : r < B ∧ (B ≤ g ∨ r * B + u2 < g * v2)
  · obtain ⟨d1, d2, d3⟩ := hdec hc.1 hc.2
    have hrB' : r < 4294967296 := hc.1
    have x1 : (r : Int) < 4294967296 := by omega
    generalize g - 1 = gm at *
    generalize r + top = rt at *
    by_cases c2 : B ≤ g
    · have x2 : (4294967296 : Int) ≤ g := by simp only [B] at c2; omega
      simp [sDv4, y0, y8, x1, x2, d1, d2, p14, i4, dg, t11, t13]
      exact d3 _ (snd_of (by simp [LeT, sDv4]) (by simp [sDv4]))
    · have x2 : ¬ (4294967296 : Int) ≤ g := by simp only [B] at c2; omega
      have hr1 : r * 4294967296 < 18446744073709551616 := by omega
      have hu1' : u2 < 18446744073709551616 := by omega
      have c3 : r * B + u2 < g * v2 := by rcases hc.2 with h | h; exact absurd h c2; exact h
      simp only [B] at c2 c3
      obtain ⟨gv, hgv⟩ : ∃ x, x = g * v2 := ⟨_, rfl⟩
      have hg1 : g ≤ 4294967295 := by omega
      have hv1 : v2 ≤ 4294967295 := by omega
      have hgvB : g * v2 ≤ 4294967295 * 4294967295 := Nat.mul_le_mul hg1 hv1
      rw [← hgv] at hgvB
      have y3 : (g : Int) * v2 = gv := by rw [hgv]; exact (Int.natCast_mul _ _).symm
      have y4 : IntKind.u64.wrap (gv : Int) = gv := by rw [wrap_u64]; omega
      have y5 : IntKind.u64.wrap ((r : Int) * 4294967296) = (r : Int) * 4294967296 := by rw [wrap_u64]; omega
      obtain ⟨ru, hru⟩ : ∃ x, x = r * 4294967296 + u2 := ⟨_, rfl⟩
      have y6 : bOr .u64 ((r : Int) * 4294967296) u2 = ru := by
        have := bOr64 (r * 4294967296) u2 hr1 hu1'
        rw [or_cut r u2 hu2B, ← hru] at this
        rw [← this]; congr 1
      have y7 : (ru : Int) < gv := by omega
      simp [sDv4, y0, y8, x1, x2, d1, d2, p12, i3, p1, p3, i2, dg, y1, y2, y3, y4, y5, y6, y7, p13, p14, i4, t11, t13, hn2V]
      exact d3 _ (snd_of (by simp [LeT, sDv4]) (by simp [sDv4]))
  · clear hdec
    obtain ⟨hgB, hgW⟩ := kk.done hgr hc
    have hgB' : g < 4294967296 := hgB
    have x2 : ¬ (4294967296 : Int) ≤ g := by omega
    have hru : r < 4294967296 → ∃ gv ru : Nat, (g : Int) * v2 = gv ∧ IntKind.u64.wrap (gv : Int) = gv ∧ IntKind.u64.wrap ((r : Int) * 4294967296) = (r : Int) * 4294967296 ∧ bOr .u64 ((r : Int) * 4294967296) u2 = ru ∧ ¬ (ru : Int) < gv := by
      intro c1
      have hg1 : g ≤ 4294967295 := by omega
      have hv1 : v2 ≤ 4294967295 := by omega
      have hr1 : r * 4294967296 < 18446744073709551616 := by omega
      have hu1' : u2 < 18446744073709551616 := by omega
      have c3 : ¬ r * 4294967296 + u2 < g * v2 := fun h => hc ⟨c1, .inr h⟩
      have y5 : IntKind.u64.wrap ((r : Int) * 4294967296) = (r : Int) * 4294967296 := by rw [wrap_u64]; omega
      have hgvB : g * v2 ≤ 4294967295 * 4294967295 := Nat.mul_le_mul hg1 hv1
      refine ⟨g * v2, r * 4294967296 + u2, (Int.natCast_mul _ _).symm, by rw [wrap_u64]; omega, y5, ?_, by omega⟩
      have := bOr64 (r * 4294967296) u2 hr1 hu1'
      rw [or_cut r u2 hu2B] at this
      rw [← this]; congr 1
    by_cases c1 : r < 4294967296
    have x1 : (r : Int) < 4294967296 := by omega
    obtain ⟨gv, ru, y3, y4, y5, y6, y7⟩ := hru c1
    simp [sDv4, y0, x1, x2, p12, i3, p1, p3, i2, y1, y2, y3, y4, y5, y6, y7, p13, hn2V, dg]
    rotate_left
    have x1 : ¬ (r : Int) < 4294967296 := by omega
    simp [sDv4, y0, x1]
    all_goals exact hen g hgB' hWg hgW _ (snd_of (by simp [LeT, sDv6]) (by simp [sDv6]))
end Go.Proofs.YtdkgkcnllhcamaaGreat.Ae

/-! spec.l1MagDiv: behind the loop: the rest is shifted back. No condition. -/
namespace Go.Proofs.YtdkgkcnllhcamaaGreat.Ae
open Go Go.RowKit Go.Proofs.YtdkgkcnllhcamaaGreat.Dig

theorem digs_getD : ∀ (ds : List Nat) (i : Nat), Digs ds → ds.getD i 0 = val ds / B ^ i % B
  | [], i, _ => by simp [val]
  | x :: xs, 0, h => by
    have := h.head
    simp only [val, List.getD_cons_zero, Nat.pow_zero, Nat.div_one, Nat.add_mul_mod_self_left]
    exact (Nat.mod_eq_of_lt this).symm
  | x :: xs, i + 1, h => by
    have h1 := h.head
    have h2 := digs_getD xs i h.tail
    rw [List.getD_cons_succ, h2, val, Nat.pow_succ, Nat.mul_comm (B ^ i) B, ← Nat.div_div_eq_div_mul, Nat.add_mul_div_left _ _ B_pos, Nat.div_eq_of_lt h1, Nat.zero_add]
theorem or_shift (x y s : Nat) (hx : x < B) (hs : s < 32) : x / 2 ^ s ||| (y * 2 ^ (32 - s)) % B = (y * B + x) / 2 ^ s % B := by
  have hB : B = 2 ^ (32 - s) * 2 ^ s := by
    rw [← Nat.pow_add]
    have : 32 - s + s = 32 := by omega
    rw [this]; rfl
  have hp : 0 < 2 ^ s := Nat.pow_pos (by decide)
  have h1 : x / 2 ^ s < 2 ^ (32 - s) := by rw [Nat.div_lt_iff_lt_mul hp, ← hB]; exact hx
  have h2 : (y * 2 ^ (32 - s)) % B = 2 ^ (32 - s) * (y % 2 ^ s) := by rw [hB, Nat.mul_comm y, Nat.mul_mod_mul_left]
  have h3 : (y * B + x) / 2 ^ s = y * 2 ^ (32 - s) + x / 2 ^ s := by
    rw [hB, ← Nat.mul_assoc, Nat.add_comm, Nat.mul_comm _ (2 ^ s), Nat.add_mul_div_left _ _ hp, Nat.add_comm]
  rw [h2, h3, Nat.or_comm, ← Nat.two_pow_add_eq_or_of_lt h1]
  have h4 : y % 2 ^ s < 2 ^ s := Nat.mod_lt _ hp
  have h5 : 2 ^ (32 - s) * (y % 2 ^ s) + x / 2 ^ s < B := by
    have : 2 ^ (32 - s) * (y % 2 ^ s + 1) ≤ 2 ^ (32 - s) * 2 ^ s := Nat.mul_le_mul_left _ h4
    rw [← hB, Nat.mul_add, Nat.mul_one] at this
    omega
  rw [Nat.add_mod, h2, Nat.mod_eq_of_lt (Nat.lt_of_le_of_lt (Nat.le_add_left _ _) h5), Nat.mod_eq_of_lt h5]

noncomputable def sdTail : Code := sq2 (sq2 (sq2 (sq2 (sq2 (sq2 (sq2 (sq2 (sq2 (sq2 sdB)))))))))
def sDvE (s n : Nat) (vs us qs : List Nat) : St := ⟨[.any, .any, .any, .any, .any, .any, .dat (.lit (.int .u64 s)), .dat (.lit (.int .i64 n)), .row 60, .row 63, .row 69, .dat (.lit (.int .i64 (-1))), .any, .any, .any, .any, .any, .any, .any, .any, .any, .any, .any, .any, .any, .any, .any, .any, .any, .any, .any, .any, .any, .any, .any, .any, .any, .any, .any, .any, .any, .any, .any, .any, .any, .any, .any, .any, .any, .any, .any, .any, .any, .any, .any, .any, .any, .any, .any, .any, .any, .any, .any, .any, .any, .any, .any, .any, .any, .any, .any, .any, .any, .any, .dat (.lit (.int .i64 (-1))), .dat (.lit (.bool false)), .any, .any, .any, .any, .any, .any, .any, .any, .any, .any, .any, .any, .any, .any, .any, .any, .any, .any, .any, .any, .any, .any, .any, .any, .any, .any, .any, .any, .any, .any, .any, .any, .any, .any, .any, .any, .any, .any, .any, .any, .any, .any, .any, .any, .any, .any, .any, .any, .any, .any, .any, .any, .any, .any, .any, .any, .any, .any, .any, .any, .any, .any, .any, .any, .any, .any, .any, .any, .any, .any, .any, .any, .any, .any, .any, .any, .any, .any, .any, .any, .any, .any, .any, .any, .any, .any, .any, .any, .any, .any, .any, .any, .any, .any, .any, .any, .any, .any, .any, .any, .any, .any, .any, .any, .any, .any, .any, .any, .any, .any, .any, .any, .any, .any, .any, .any, .any, .any, .any, .any, .any, .any, .any, .any, .any, .any, .any, .any, .any, .any, .any, .any, .any, .any, .any, .any, .any, .any, .any, .any, .any, .any, .any, .any, .any, .any, .any, .any, .any, .any, .any, .any, .any, .any, .any, .any, .any, .any, .any, .any, .any, .any, .any, .any, .any, .any, .any, .any, .any, .any, .any, .any, .any, .any, .any, .any, .any, .any, .any, .any, .any, .any, .any, .any, .any, .any, .any, .any, .any, .any, .any, .any, .any, .any, .any, .any, .any, .any, .any, .any, .any, .any, .any, .any, .any, .any, .any, .any, .any, .any, .any, .any, .any, .any, .any, .any, .any, .any, .any, .any, .any, .any, .any, .any, .any], [none, none, none, none, none, none, none, none, none, none, none, none, none, none, none, none, none, none, none, none, none, none, none, none, none, none, none, none, none, none, none, none, none, none, none, none, none, none, none, none, none, none, none, none, none, none, none, none, none, none, none, none, none, none, none, none, none, none, none, none, some (.row 1 72 (vs.map dg)), none, none, some (.row 1 72 (us.map dg)), none, none, none, none, none, some (.row 1 72 (qs.map dg)), none, none, none, none, none, none, none, none, none, none, none, none, none, none, none, none, none, none, none, none, none, none, none, none, none, none, none, none, none, none, none, none, none, none, none, none, none, none, none, none, none, none, none, none, none, none, none, none, none, none, none, none, none, none, none, none, none, none, none, none, none, none, none, none, none, none, none, none, none, none, none, none, none, none, none, none, none, none, none, none, none, none, none, none, none, none, none, none, none, none, none, none, none, none, none, none, none, none, none, none, none, none, none, none, none, none, none, none, none, none, none, none, none, none, none, none, none, none, none, none, none, none, none, none, none, none, none, none, none, none, none, none, none, none, none, none, none, none, none, none, none, none, none, none, none, none, none, none, none, none, none, none, none, none, none, none, none, none, none, none, none, none, none, none, none, none, none, none, none, none, none, none, none, none, none, none, none, none, none, none, none, none, none, none, none, none, none, none, none, none, none, none, none, none, none, none, none, none, none, none, none, none, none, none, none, none, none, none, none, none, none, none, none, none, none, none, none, none, none, none, none, none, none, none, none, none, none, none, none, none, none]⟩
def sDvR (s n : Nat) (vs us qs os : List Nat) (k : Nat) : St := ⟨[.any, .any, .any, .any, .any, .any, .dat (.lit (.int .u64 s)), .dat (.lit (.int .i64 n)), .any, .row 63, .row 69, .any, .any, .any, .any, .any, .any, .any, .any, .any, .any, .any, .any, .any, .any, .row 264, .dat (.lit (.int .i64 os.length)), .any, .any, .any, .any, .any, .any, .any, .any, .any, .any, .any, .any, .any, .any, .any, .any, .any, .any, .any, .any, .any, .any, .any, .any, .any, .any, .any, .any, .any, .any, .any, .any, .any, .any, .any, .any, .any, .any, .any, .any, .any, .any, .any, .any, .any, .any, .any, .any, .any, .any, .any, .any, .any, .any, .any, .any, .any, .any, .any, .any, .any, .any, .any, .any, .any, .any, .any, .any, .any, .any, .any, .any, .any, .any, .any, .any, .any, .any, .any, .any, .any, .any, .any, .any, .any, .any, .any, .any, .any, .any, .any, .any, .any, .any, .any, .any, .any, .any, .any, .any, .any, .any, .any, .any, .any, .any, .any, .any, .any, .any, .any, .any, .any, .any, .any, .any, .any, .any, .any, .any, .any, .any, .any, .any, .any, .any, .any, .any, .any, .any, .any, .any, .any, .any, .any, .any, .any, .any, .any, .any, .any, .any, .any, .any, .any, .any, .any, .any, .any, .any, .any, .any, .any, .any, .any, .any, .any, .any, .any, .any, .any, .any, .any, .any, .any, .any, .any, .any, .any, .any, .any, .any, .any, .any, .any, .any, .any, .any, .any, .any, .any, .any, .any, .any, .any, .any, .any, .any, .any, .any, .any, .any, .any, .any, .any, .any, .any, .any, .any, .any, .any, .any, .any, .any, .any, .any, .any, .any, .any, .any, .any, .any, .any, .any, .any, .any, .any, .any, .any, .any, .any, .any, .any, .any, .any, .any, .any, .any, .any, .any, .any, .any, .any, .any, .any, .any, .any, .any, .any, .any, .any, .any, .any, .any, .any, .any, .any, .any, .any, .any, .any, .any, .any, .any, .any, .any, .any, .any, .any, .any, .any, .any, .any, .any, .any, .any, .any, .any, .any, .any, .any, .any, .any, .any], [none, none, none, none, none, none, none, none, none, none, none, none, none, none, none, none, none, none, none, none, none, none, none, none, none, none, none, none, none, none, none, none, none, none, none, none, none, none, none, none, none, none, none, none, none, none, none, none, none, none, none, none, none, none, none, none, none, none, none, none, some (.row 1 72 (vs.map dg)), none, none, some (.row 1 72 (us.map dg)), none, none, none, none, none, some (.row 1 72 (qs.map dg)), none, none, none, none, none, none, none, none, none, none, none, none, none, none, none, none, none, none, none, none, none, none, none, none, none, none, none, none, none, none, none, none, none, none, none, none, none, none, none, none, none, none, none, none, none, none, none, none, none, none, none, none, none, none, none, none, none, none, none, none, none, none, none, none, none, none, none, none, none, none, none, none, none, none, none, none, none, none, none, none, none, none, none, none, none, none, none, none, none, none, none, none, none, none, none, none, none, none, none, none, none, none, none, none, none, none, none, none, none, none, none, none, none, none, none, none, none, none, none, none, none, none, none, none, none, none, none, none, none, none, none, none, none, none, none, none, none, none, none, none, none, none, none, none, none, none, none, none, none, none, none, none, none, none, none, none, none, none, none, none, none, none, none, none, none, none, none, none, none, none, none, none, none, none, none, none, none, none, none, none, none, none, none, none, none, none, none, none, none, none, none, none, none, none, some (.row 1 72 (os.map dg ++ List.replicate k z32)), none, none, none, none, none, none, none, none, none, none, none, none, none, none, none, none, none, none, none, none, none, none, none, none, none, none, none, none, none, none, none, none, none, none, none, none]⟩

set_option maxRecDepth 100000 in
set_option maxHeartbeats 4000000 in
theorem sDiv_tail {s n Q R : Nat} {us qs vs : List Nat} (hs : s ≤ 31) (hus : Digs us) (hqs : Digs qs) (hul : us.length < 2 ^ 41) (hql : qs.length < 2 ^ 41) (hn : n < us.length) (hQ : val qs = Q) (hR : val us = R * 2 ^ s) (hRn : val us < B ^ n) :
    awp Tryz.prog sDivMf (tbl sDivTb) sdTail (sDvE s n vs us qs) (endK Tryz.prog 301 [.tmp 4, .tmp 5] [.dat (.sl 1 ((mag Q).map dg)), .dat (.sl 1 ((mag R).map dg))] []) := by
  simp only [sdTail, sdB, Tryz.f37, Option.getD, sq1, sq2, inB, inL]
  obtain ⟨Z, hZ⟩ : ∃ Z, Z = val us := ⟨_, rfl⟩
  have hp2 : 0 < 2 ^ s := Nat.pow_pos (by decide)
  have hZR : Z / 2 ^ s = R := by rw [hZ, hR, Nat.mul_div_cancel _ hp2]
  have hmx := maxLen_ge
  have e1 : n ≤ maxLen := by omega
  simp [sDvE, e1]
  refine ⟨by omega, ?_⟩
  refine loop_go (fun j st => ∃ (os : List Nat), Digs os ∧ os.length + j = n ∧ val os = (Z / 2 ^ s) % B ^ os.length ∧ st = sDvR s n vs us qs os j) (s0 := sDvR s n vs us qs [] n) (n := n)
    (snd_of (by simp [LeT, sDvR]) (by simp [sDvR, z32])) ⟨[], Digs.nil, by simp, by simp [val, Nat.mod_one], rfl⟩ ?_
  rintro j st ⟨os, hos, hol, hov, rfl⟩ KN hN
  cases j with
  | zero =>
    have hon : os.length = n := by omega
    have hRZ : R ≤ Z := by rw [hZ, hR]; exact Nat.le_mul_of_pos_right _ hp2
    have hoR : val os = R := by rw [hov, hZR, hon, Nat.mod_eq_of_lt (by omega)]
    have t2 := trimC_at' os hos
    have t3 := trimC_at' qs hqs
    rw [hoR] at t2
    rw [hQ] at t3
    have c1 : os.length < 2 ^ 62 := by omega
    have c2 : qs.length < 2 ^ 62 := by omega
    simp only [c1] at t2
    simp only [c2] at t3
    simp [sDvR, hon, t2, t3]
  | succ j =>
    obtain ⟨x, hx⟩ : ∃ x, x = us.getD os.length 0 := ⟨_, rfl⟩
    obtain ⟨y, hy⟩ : ∃ y, y = us.getD (os.length + 1) 0 := ⟨_, rfl⟩
    have hxZ : x = Z / B ^ os.length % B := by rw [hx, hZ]; exact digs_getD _ _ hus
    have hyZ : y = Z / B ^ (os.length + 1) % B := by rw [hy, hZ]; exact digs_getD _ _ hus
    have hxB : x < 4294967296 := by rw [hx]; exact getD_lt hus _
    have hyB : y < 4294967296 := by rw [hy]; exact getD_lt hus _
    have i1 := ix_dg us os.length (by omega)
    have i2 := ix_dg us (os.length + 1) (by omega)
    rw [← hx] at i1
    rw [← hy] at i2
    have hdig := shr_digit Z s os.length hs
    rw [← hyZ, ← hxZ] at hdig
    obtain ⟨d1, hd1⟩ : ∃ d, d = x / 2 ^ s := ⟨_, rfl⟩
    have hd1B : d1 < 4294967296 := by rw [hd1]; exact Nat.lt_of_le_of_lt (Nat.div_le_self _ _) hxB
    have e0 := lset_fwd os j
    have e9 := ix_fwd os j
    have q6 : (x : Int).fdiv (2 ^ s) = (d1 : Int) := by
      have e : (2 : Int) ^ s = ((2 ^ s : Nat) : Int) := by simp
      rw [e, Int.fdiv_eq_ediv_of_nonneg _ (by omega), hd1]; exact (Int.natCast_ediv _ _).symm
    have q5 : min s 32 = s := by omega
    have q7 : IntKind.i64.wrap ((os.length : Int) + 1) = os.length + 1 := by rw [wrap_i64]; omega
    have q8 : (os.length : Int) < n := by omega
    have q9 : os.length < us.length := by omega
    have hnext : ∀ d, d < B → d = (y * B + x) / 2 ^ s % B → ∀ s', Snd s' (sDvR s n vs us qs (os ++ [d]) j) → KN s' := by
      intro d hd h1 s' hs'
      refine hN _ (nx (m := j) hs' ⟨os ++ [d], hos.append (Digs.nil.cons hd), ?_, ?_, rfl⟩ (by omega))
      · simp only [List.length_append, List.length_singleton]; omega
      · rw [val_snoc, hov, List.length_append, List.length_singleton, Nat.pow_succ, Nat.mod_mul, hdig, h1]
    rcases Nat.eq_zero_or_pos s with h0 | h0
    · subst h0
      have hd1x : d1 = x := by rw [hd1]; simp
      subst hd1x
      have hfin := hnext d1 hd1B (by
        rw [Nat.pow_zero, Nat.div_one, Nat.mul_comm, Nat.mul_add_mod]; exact (Nat.mod_eq_of_lt hd1B).symm)
      simp [sDvR, i1, e0, e9, dg, q7, q8, q9]
      exact ⟨by omega, hfin _ (snd_of (by simp [LeT, sDvR]) (by simp [sDvR, dg]))⟩
    · obtain ⟨d, hd⟩ : ∃ d, d = d1 ||| (y * 2 ^ (32 - s)) % 4294967296 := ⟨_, rfl⟩
      have hd2 := or_shift x y s hxB (by omega)
      rw [← hd1] at hd2
      have hd3 : d = (y * B + x) / 2 ^ s % B := by rw [← hd2, hd]; rfl
      have hdB : d < B := by rw [hd3]; exact Nat.mod_lt _ B_pos
      have hfin := hnext d hdB hd3
      obtain ⟨s2, hs2⟩ : ∃ s2, s2 = 32 - s := ⟨_, rfl⟩
      have q10 : IntKind.u64.wrap (32 - (s : Int)) = s2 := by rw [wrap_u64]; omega
      have q11 : min s2 32 = s2 := by omega
      obtain ⟨y2, hy2⟩ : ∃ y2, y2 = y * 2 ^ s2 := ⟨_, rfl⟩
      obtain ⟨y3, hy3⟩ : ∃ y3, y3 = y2 % 4294967296 := ⟨_, rfl⟩
      have q12 : IntKind.u32.wrap ((y : Int) * 2 ^ s2) = y3 := by
        have : (y : Int) * 2 ^ s2 = y2 := by rw [hy2]; simp
        rw [this, wrap_u32]; omega
      have q13 : bOr .u32 (d1 : Int) y3 = d := by
        rw [bOr32 d1 y3 hd1B (by omega), hd, hy3, hy2, hs2]
      have q14 : (0 : Int) < s := by omega
      have q15 : os.length + 1 < us.length := by omega
      have e7 : ix (List.map dg os ++ D.lit (.int .u32 (d1 : Int)) :: List.replicate j z32) os.length = some (.lit (.int .u32 (d1 : Int))) := by
        have h : os.length = (List.map dg os).length := by simp
        unfold ix; rw [h, List.getElem?_append_right (Nat.le_refl _), Nat.sub_self]; rfl
      have e8 : ∀ v, lset (List.map dg os ++ D.lit (.int .u32 (d1 : Int)) :: List.replicate j z32) os.length v = List.map dg os ++ v :: List.replicate j z32 := fun v => by
        have h : os.length = (List.map dg os).length := by simp
        unfold lset; rw [h, List.set_append_right _ _ (Nat.le_refl _), Nat.sub_self]; rfl
      simp [sDvR, i1, i2, e0, e9, e7, e8, dg, q5, q6, q7, q8, q9, q10, q11, q12, q13, q14, q15, h0]
      exact ⟨by omega, by omega, by omega, hfin _ (snd_of (by simp [LeT, sDvR]) (by simp [sDvR, dg]))⟩
end Go.Proofs.YtdkgkcnllhcamaaGreat.Ae

/-! spec.l1MagDiv: behind the first loop. No condition. -/
namespace Go.Proofs.YtdkgkcnllhcamaaGreat.Ae
open Go Go.RowKit Go.Proofs.YtdkgkcnllhcamaaGreat.Dig
variable {N : NR}

/-- The shift that makes the first digit great. -/
theorem shift_is {bt s : Nat} (h0 : bt ≠ 0) (h1 : 2147483648 ≤ bt * 2 ^ s) (h2 : bt * 2 ^ s < 4294967296) (hs : s ≤ 31) : s = 32 - bl bt := by
  have h3 := bl_lt (x := bt)
  have h4 := bl_ge h0
  have h5 : 1 ≤ bl bt := by unfold bl; rw [if_neg h0]; omega
  have h6 : bt * 2 ^ s < 2 ^ (bl bt + s) := by rw [Nat.pow_add]; exact Nat.mul_lt_mul_of_pos_right h3 (Nat.pow_pos (by decide))
  have h7 : 2 ^ (bl bt - 1 + s) ≤ bt * 2 ^ s := by rw [Nat.pow_add]; exact Nat.mul_le_mul_right _ h4
  have h8 : 2 ^ 31 < 2 ^ (bl bt + s) := Nat.lt_of_le_of_lt h1 h6
  have h9 : 2 ^ (bl bt - 1 + s) < 2 ^ 32 := Nat.lt_of_le_of_lt h7 h2
  have h10 := (Nat.pow_lt_pow_iff_right (by decide : 1 < 2)).1 h8
  have h11 := (Nat.pow_lt_pow_iff_right (by decide : 1 < 2)).1 h9
  omega
def sDv1 (a b s : Nat) : St := ⟨[.dat (.sl 1 ((mag a).map dg)), .dat (.sl 1 ((mag b).map dg)), .any, .any, .any, .any, .dat (.lit (.int .u64 s)), .any, .any, .any, .any, .any, .any, .any, .any, .any, .any, .any, .any, .any, .any, .any, .any, .any, .any, .any, .any, .any, .any, .any, .any, .any, .any, .any, .any, .any, .any, .any, .any, .any, .any, .any, .any, .any, .any, .any, .any, .any, .any, .any, .any, .any, .any, .any, .any, .any, .any, .any, .any, .any, .any, .any, .any, .any, .any, .any, .any, .any, .any, .any, .any, .any, .any, .any, .any, .any, .any, .any, .any, .any, .any, .any, .any, .any, .any, .any, .any, .any, .any, .any, .any, .any, .any, .any, .any, .any, .any, .any, .any, .any, .any, .any, .any, .any, .any, .any, .any, .any, .any, .any, .any, .any, .any, .any, .any, .any, .any, .any, .any, .any, .any, .any, .any, .any, .any, .any, .any, .any, .any, .any, .any, .any, .any, .any, .any, .any, .any, .any, .any, .any, .any, .any, .any, .any, .any, .any, .any, .any, .any, .any, .any, .any, .any, .any, .any, .any, .any, .any, .any, .any, .any, .any, .any, .any, .any, .any, .any, .any, .any, .any, .any, .any, .any, .any, .any, .any, .any, .any, .any, .any, .any, .any, .any, .any, .any, .any, .any, .any, .any, .any, .any, .any, .any, .any, .any, .any, .any, .any, .any, .any, .any, .any, .any, .any, .any, .any, .any, .any, .any, .any, .any, .any, .any, .any, .any, .any, .any, .any, .any, .any, .any, .any, .any, .any, .any, .any, .any, .any, .any, .any, .any, .any, .any, .any, .any, .any, .any, .any, .any, .any, .any, .any, .any, .any, .any, .any, .any, .any, .any, .any, .any, .any, .any, .any, .any, .any, .any, .any, .any, .any, .any, .any, .any, .any, .any, .any, .any, .any, .any, .any, .any, .any, .any, .any, .any, .any, .any, .any, .any, .any, .any, .any, .any, .any, .any, .any, .any, .any, .any, .any, .any, .any, .any, .any, .any, .any, .any, .any, .any, .any, .any], [none, none, none, none, none, none, none, none, none, none, none, none, none, none, none, none, none, none, none, none, none, none, none, none, none, none, none, none, none, none, none, none, none, none, none, none, none, none, none, none, none, none, none, none, none, none, none, none, none, none, none, none, none, none, none, none, none, none, none, none, none, none, none, none, none, none, none, none, none, none, none, none, none, none, none, none, none, none, none, none, none, none, none, none, none, none, none, none, none, none, none, none, none, none, none, none, none, none, none, none, none, none, none, none, none, none, none, none, none, none, none, none, none, none, none, none, none, none, none, none, none, none, none, none, none, none, none, none, none, none, none, none, none, none, none, none, none, none, none, none, none, none, none, none, none, none, none, none, none, none, none, none, none, none, none, none, none, none, none, none, none, none, none, none, none, none, none, none, none, none, none, none, none, none, none, none, none, none, none, none, none, none, none, none, none, none, none, none, none, none, none, none, none, none, none, none, none, none, none, none, none, none, none, none, none, none, none, none, none, none, none, none, none, none, none, none, none, none, none, none, none, none, none, none, none, none, none, none, none, none, none, none, none, none, none, none, none, none, none, none, none, none, none, none, none, none, none, none, none, none, none, none, none, none, none, none, none, none, none, none, none, none, none, none, none, none, none, none, none, none, none, none, none, none, none, none, none, none, none, none, none, none, none, none, none, none, none, none, none, none, none, none, none, none, none, none, none, none, none, none, none]⟩
set_option maxRecDepth 100000 in
theorem sDiv_exit {s n : Nat} {us vs qs : List Nat} (KN : St → Prop) (K' : Exit → St → Prop) (h : K' .normal (sDvE s n vs us qs)) : awp Tryz.prog sDivMf (tbl sDivTb) sdM (sDvS s n vs us qs 0) (Klp KN (Kblk 2 K')) := by
  simp only [sdM, sdB, Tryz.f37, Option.getD, sq1, sq2, inB, inL]
  simp [sDvS]
  exact h
theorem top_ne {b n bt : Nat} (hn : (mag b).length = n + 1) (hbt : bt = (mag b).getD n 0) : bt ≠ 0 := by
  have h1 : (mag b).getLast? = some bt := by
    rw [List.getLast?_eq_getElem?, hn, Nat.add_sub_cancel, hbt, List.getD_eq_getElem?_getD, List.getElem?_eq_getElem (by omega)]; rfl
  exact mag_last b bt h1
/-- The dividend's first part is less than the divisor. -/
theorem start_lt {U V la n1 k0 sh top : Nat} {us : List Nat} (hus : Digs us) (hvU : val us = U) (hul : us.length = la + 1) (hk : k0 + n1 = la) (hVl : (mag V).length = n1 + 1) (htop : top = (mag V).getD n1 0) (hVt : 2147483648 ≤ top) (hUlt : U < B ^ la * 2 ^ sh) (h2s : 2 ^ sh ≤ 2 ^ 31) : val (us.drop k0) < V := by
  obtain ⟨ut, hut⟩ : ∃ ut, ut = us.getD la 0 := ⟨_, rfl⟩
  have h1 := val_top1 hul
  rw [hvU, ← hut] at h1
  have hut2 : ut < 2 ^ sh := by
    have h2 : B ^ la * ut < B ^ la * 2 ^ sh := by omega
    exact Nat.lt_of_mul_lt_mul_left h2
  have hdl : (us.drop k0).length = n1 + 1 := by rw [List.length_drop]; omega
  have h3 := val_top1 hdl
  have h4 : (us.drop k0).getD n1 0 = ut := by
    rw [hut, List.getD_eq_getElem?_getD, List.getElem?_drop, List.getD_eq_getElem?_getD]
    congr 2
  rw [h4] at h3
  have h5 := val_lt ((hus.drop k0).take n1)
  rw [List.length_take, Nat.min_eq_left (by omega)] at h5
  have h6 := val_top1 hVl
  rw [val_mag, ← htop] at h6
  have h7 : B ^ n1 * (ut + 1) ≤ B ^ n1 * top := Nat.mul_le_mul_left _ (by omega)
  rw [Nat.mul_add, Nat.mul_one] at h7
  generalize B ^ n1 * ut = z1 at *
  generalize B ^ n1 * top = z2 at *
  generalize B ^ n1 = z3 at *
  omega

noncomputable def sdR8 : Code := sq2 (sq2 (sq2 (sq2 (sq2 sdB))))
def sDv1e (a b s n n1 bt y : Nat) : St := ⟨[.dat (.sl 1 ((mag a).map dg)), .dat (.sl 1 ((mag b).map dg)), .any, .any, .any, .any, .dat (.lit (.int .u64 s)), .any, .any, .any, .any, .any, .any, .any, .any, .any, .any, .any, .any, .any, .any, .any, .any, .any, .any, .any, .any, .any, .any, .any, .any, .any, .any, .any, .any, .any, .any, .any, .any, .any, .any, .any, .any, .any, .any, .dat (.sl 1 ((mag b).map dg)), .dat (.sl 1 ((mag b).map dg)), .dat (.lit (.int .i64 n)), .dat (.lit (.int .i64 n1)), .dat (.ptr (.lit (.int .u32 bt))), .dat (.lit (.int .u32 bt)), .dat (.lit (.int .u64 s)), .dat (.lit (.int .u32 y)), .dat (.lit (.bool false)), .any, .any, .any, .any, .any, .any, .any, .any, .any, .any, .any, .any, .any, .any, .any, .any, .any, .any, .any, .any, .any, .any, .any, .any, .any, .any, .any, .any, .any, .any, .any, .any, .any, .any, .any, .any, .any, .any, .any, .any, .any, .any, .any, .any, .any, .any, .any, .any, .any, .any, .any, .any, .any, .any, .any, .any, .any, .any, .any, .any, .any, .any, .any, .any, .any, .any, .any, .any, .any, .any, .any, .any, .any, .any, .any, .any, .any, .any, .any, .any, .any, .any, .any, .any, .any, .any, .any, .any, .any, .any, .any, .any, .any, .any, .any, .any, .any, .any, .any, .any, .any, .any, .any, .any, .any, .any, .any, .any, .any, .any, .any, .any, .any, .any, .any, .any, .any, .any, .any, .any, .any, .any, .any, .any, .any, .any, .any, .any, .any, .any, .any, .any, .any, .any, .any, .any, .any, .any, .any, .any, .any, .any, .any, .any, .any, .any, .any, .any, .any, .any, .any, .any, .any, .any, .any, .any, .any, .any, .any, .any, .any, .any, .any, .any, .any, .any, .any, .any, .any, .any, .any, .any, .any, .any, .any, .any, .any, .any, .any, .any, .any, .any, .any, .any, .any, .any, .any, .any, .any, .any, .any, .any, .any, .any, .any, .any, .any, .any, .any, .any, .any, .any, .any, .any, .any, .any, .any, .any, .any, .any, .any, .any, .any, .any, .any, .any, .any, .any, .any, .any, .any, .any, .any, .any, .any, .any, .any, .any, .any, .any, .any, .any, .any, .any, .any, .any, .any, .any, .any, .any, .any, .any, .any, .any, .any, .any, .any], [none, none, none, none, none, none, none, none, none, none, none, none, none, none, none, none, none, none, none, none, none, none, none, none, none, none, none, none, none, none, none, none, none, none, none, none, none, none, none, none, none, none, none, none, none, none, none, none, none, none, none, none, none, none, none, none, none, none, none, none, none, none, none, none, none, none, none, none, none, none, none, none, none, none, none, none, none, none, none, none, none, none, none, none, none, none, none, none, none, none, none, none, none, none, none, none, none, none, none, none, none, none, none, none, none, none, none, none, none, none, none, none, none, none, none, none, none, none, none, none, none, none, none, none, none, none, none, none, none, none, none, none, none, none, none, none, none, none, none, none, none, none, none, none, none, none, none, none, none, none, none, none, none, none, none, none, none, none, none, none, none, none, none, none, none, none, none, none, none, none, none, none, none, none, none, none, none, none, none, none, none, none, none, none, none, none, none, none, none, none, none, none, none, none, none, none, none, none, none, none, none, none, none, none, none, none, none, none, none, none, none, none, none, none, none, none, none, none, none, none, none, none, none, none, none, none, none, none, none, none, none, none, none, none, none, none, none, none, none, none, none, none, none, none, none, none, none, none, none, none, none, none, none, none, none, none, none, none, none, none, none, none, none, none, none, none, none, none, none, none, none, none, none, none, none, none, none, none, none, none, none, none, none, none, none, none, none, none, none, none, none, none, none, none, none, none, none, none, none, none, none]⟩
set_option maxRecDepth 100000 in
set_option maxHeartbeats 4000000 in
theorem sDiv_main {a b s n n1 bt y Q R : Nat} (ha : (mag a).length < 2 ^ 40) (hb : (mag b).length < 2 ^ 40) (hb0 : 0 < b) (hq : a / b = Q) (hr : a % b = R) (hab : ¬ a < b) (hn : n = (mag b).length) (hn2 : 2 ≤ n) (hn1 : n - 1 = n1) (hn1' : (mag b).length = n1 + 1) (hbt : bt = (mag b).getD n1 0) (hbt0 : bt ≠ 0) (hs31 : s ≤ 31) (hsB : bt * 2 ^ s < 4294967296) (hy : y = bt * 2 ^ s) (hlt : ¬ y < 2147483648) :
    awp Tryz.prog sDivMf (tbl sDivTb) sdR8 (sDv1e a b s n n1 bt y) (endK Tryz.prog 301 [.tmp 4, .tmp 5] [.dat (.sl 1 ((mag Q).map dg)), .dat (.sl 1 ((mag R).map dg))] []) := by
    have hsh := shift_is hbt0 (by omega) hsB hs31
    obtain ⟨_, hVl, hVt⟩ := norm_facts hn1' hbt hsh
    obtain ⟨U, hU⟩ : ∃ U, U = a * 2 ^ s := ⟨_, rfl⟩
    obtain ⟨V, hV⟩ : ∃ V, V = b * 2 ^ s := ⟨_, rfl⟩
    rw [← hV] at hVl hVt
    have s2 := shlO_at a s 1
    have s3 := shlO_at b s 0
    rw [← hU] at s2
    rw [← hV] at s3
    have hVn : V < B ^ n := mag_lt.1 (by omega)
    have hs32 : s < 32 := by omega
    have hdV : dig ((mag b).length + 0) V = mag V := by
      have h1 := dig_of (n := (mag V).length) (mag_digs V) rfl (val_mag V)
      rw [← h1]
      congr 1
      omega
    rw [hdV] at s3
    simp [Sm, eM, eW, ha, hb, ← hn, hVn, hs32] at s2 s3
    have hmx := maxLen_ge
    have h2s : 2 ^ s ≤ 2 ^ 31 := Nat.pow_le_pow_right (by decide) hs31
    have hUlt : U < B ^ (mag a).length * 2 ^ s := by
      rw [hU]; exact Nat.mul_lt_mul_of_pos_right (mag_lt.1 (Nat.le_refl _)) (Nat.pow_pos (by decide))
    obtain ⟨la, hla⟩ : ∃ la, la = (mag a).length := ⟨_, rfl⟩
    have hlan : n ≤ la := by rw [hn, hla]; exact mag_len_le (by omega)
    rw [← hla] at s2 hUlt ha
    obtain ⟨us, hus'⟩ : ∃ us, us = dig (la + 1) U := ⟨_, rfl⟩
    have hus : Digs us := by rw [hus']; exact dig_digs _ _
    have hul : us.length = la + 1 := by rw [hus']; exact dig_len _ _
    have hvU : val us = U := by
      rw [hus']; refine val_dig _ _ (Nat.lt_of_lt_of_le hUlt ?_)
      rw [Nat.pow_succ]; exact Nat.mul_le_mul_left _ (Nat.le_trans h2s (by decide))
    rw [← hus'] at s2
    obtain ⟨k0, hk0⟩ : ∃ k0, k0 = la - n + 1 := ⟨_, rfl⟩
    have q4 : IntKind.i64.wrap ((la : Int) - n) = (k0 : Int) - 1 := by rw [wrap_i64]; omega
    have q5 : IntKind.i64.wrap (k0 : Int) = k0 := by rw [wrap_i64]; omega
    simp only [sdR8, sdB, Tryz.f37, Option.getD, sq2]
    simp [sDv1e, ← hn, ← hla, q4, q5, s2, s3]
    refine ⟨by omega, by omega, ?_⟩
    have hV0 : 0 < V := by rw [hV]; exact Nat.mul_pos hb0 (Nat.pow_pos (by decide))
    obtain ⟨top, htop⟩ : ∃ top, top = (mag V).getD n1 0 := ⟨_, rfl⟩
    rw [← htop] at hVt
    have htB : top < 4294967296 := by rw [htop]; exact getD_lt (mag_digs V) _
    have hstart := start_lt (k0 := k0) hus hvU hul (by omega) hVl htop hVt hUlt h2s
    refine loop_go (fun k st => ∃ us qs : List Nat, Digs us ∧ Digs qs ∧ us.length = la + 1 ∧ k + qs.length = k0 ∧ val (us.drop k) < V ∧ val us + V * (B ^ k * val qs) = U ∧ st = sDvS s n (mag V) us qs k) (s0 := sDvS s n (mag V) us [] k0) (n := k0)
      (snd_of (by simp [LeT, sDvS]) (by simp [sDvS, z32])) ⟨us, [], hus, Digs.nil, hul, by simp, hstart, by simp [val, hvU], rfl⟩ ?_
    clear hstart hvU hus hul hus' s2 s3 q5 hlt us
    rintro k st ⟨us, qs, hus, hqs, hul, hkq, hdr, hval, rfl⟩ KN hN
    cases k with
    | zero =>
      rw [List.drop_zero] at hdr
      rw [Nat.pow_zero, Nat.one_mul] at hval
      have hp2 : 0 < 2 ^ s := Nat.pow_pos (by decide)
      have hUV : U / V = Q := by rw [hU, hV, Nat.mul_div_mul_right _ _ hp2, hq]
      have hUVm : U % V = R * 2 ^ s := by rw [hU, hV, Nat.mul_mod_mul_right, hr]
      have hQ : val qs = Q := by rw [← hUV, ← hval, Nat.add_mul_div_left _ _ hV0, Nat.div_eq_of_lt hdr, Nat.zero_add]
      have hR : val us = R * 2 ^ s := by rw [← hUVm, ← hval, Nat.add_mul_mod_self_left, Nat.mod_eq_of_lt hdr]
      have ht := sDiv_tail (s := s) (n := n) (vs := mag V) (Q := Q) (R := R) hs31 hus hqs (by omega) (by omega) (by omega) hQ hR (Nat.lt_trans hdr hVn)
      simp only [sdTail, sdB, Tryz.f37, Option.getD, sq2] at ht
      have hx := fun K' => sDiv_exit (s := s) (n := n) (us := us) (vs := mag V) (qs := qs) KN K'
      simp only [sdM, sdB, Tryz.f37, Option.getD, sq1, sq2, inB, inL] at hx
      exact hx _ ht
    | succ k =>
      have hst := sDiv_step (s := s) (n := n) (n1 := n1) (V := V) (top := top) (k := k) (la := la) (us := us) (qs := qs) hn2 hn1 hVl htop hVt htB ha hus hul (by omega) hdr KN
      simp only [sdM, sdB, Tryz.f37, Option.getD, sq1, sq2, inB, inL] at hst
      refine hst _ (fun us' q h1 h2 h3 h4 h5 s' hs => hN _ (nx (m := k) (s'' := sDvS s n (mag V) us' (q :: qs) k) hs ⟨us', q :: qs, h1, hqs.cons h3, h2, by simp; omega, h4, ?_, rfl⟩ (by omega)))
      rw [← hval, ← h5, val, Nat.pow_succ]
      simp only [Nat.mul_add, Nat.mul_assoc, Nat.add_assoc]
end Go.Proofs.YtdkgkcnllhcamaaGreat.Ae

/-! spec.l1MagDiv: quotient and rest of digits. No condition. -/
namespace Go.Proofs.YtdkgkcnllhcamaaGreat.Ae
open Go Go.RowKit Go.Proofs.YtdkgkcnllhcamaaGreat.Dig
variable {N : NR}

noncomputable def sdL1 : Code := inL (inB (sq1 (sq2 (sq2 (sq2 (sq2 sdB))))))
set_option maxRecDepth 100000 in
theorem sDiv_exit1 {a b s n n1 bt y : Nat} (hn : n = (mag b).length) (hlb : n1 < n) (r1 : IntKind.i64.wrap ((n : Int) - 1) = n1) (e1 : ix (List.map dg (mag b)) n1 = some (dg bt)) (q1 : IntKind.u32.wrap ((bt : Int) * 2 ^ s) = y) (q2 : min s 32 = s) (q3 : ¬ (y : Int) < 2147483648)
    (KN : St → Prop) (K' : Exit → St → Prop) (h : K' .normal (sDv1e a b s n n1 bt y)) : awp Tryz.prog sDivMf (tbl sDivTb) sdL1 (sDv1 a b s) (Klp KN (Kblk 0 K')) := by
  simp only [sdL1, sdB, Tryz.f37, Option.getD, sq1, sq2, inB, inL]
  simp [sDv1, ← hn, r1, hlb, e1, dg, q1, q2, q3]
  exact h
set_option maxRecDepth 100000 in
set_option maxHeartbeats 4000000 in
theorem l1MagDiv_spec : SpecD N Tryz.prog 37 divC := by
  refine rdD (mf := sDivMf) sDivTb_ok (fn := Tryz.f37) (by kernel_rfl) rfl (by kernel_rfl) ?_
  rintro ⟨a, b⟩ ⟨ha, hb, hb0⟩
  refine ⟨by show 2 ≤ 301; decide, ?_⟩
  simp only [n2E, Tryz.f37]
  simp only [Sm] at ha hb
  have hb0 : 0 < b := hb0
  generalize hq : a / b = Q
  generalize hr : a % b = R
  have c1 := sCmpC_at a b
  simp only [Sm, ha, hb, and_self] at c1
  by_cases hab : a < b
  · have h1 : Q = 0 := by rw [← hq]; exact Nat.div_eq_of_lt hab
    have h2 : R = a := by rw [← hr]; exact Nat.mod_eq_of_lt hab
    have h3 : sgnC a b = -1 := by unfold sgnC; rw [if_pos hab]
    subst h1 h2
    rw [h3] at c1
    simp only [eM, eW] at c1 ⊢
    simp [c1, mag_zero]
    have := maxLen_ge
    omega
  · have h3 : ¬ sgnC a b < 0 := by unfold sgnC; rw [if_neg hab]; split <;> omega
    generalize sgnC a b = cv at c1 h3
    by_cases hl : (mag b).length = 1
    · obtain ⟨d, hd⟩ : ∃ d, mag b = [d] := List.length_eq_one_iff.1 hl
      have hbd : b = d := by have := val_mag b; rw [hd] at this; simp [val] at this; exact this.symm
      have hdB : d < B := by have := mag_digs b; rw [hd] at this; exact this.head
      have s1 := div1C_at a d
      rw [← hbd, hq, hr] at s1
      have e2 : ix (List.map dg (mag b)) 0 = some (dg b) := by rw [hd, hbd]; rfl
      have hbB : b < B := by rw [hbd]; exact hdB
      simp only [Sm, ha, hb0, hbB, and_self, dg] at s1
      simp only [eM, eW] at c1 s1 ⊢
      simp [c1, h3, hl, e2, dg, s1]
    · obtain ⟨n, hn⟩ : ∃ n, n = (mag b).length := ⟨_, rfl⟩
      have hn0 : n ≠ 0 := by rw [hn]; exact fun h => by rw [mag_len_zero] at h; omega
      have hn2 : 2 ≤ n := by omega
      obtain ⟨n1, hn1⟩ : ∃ n1, n - 1 = n1 := ⟨_, rfl⟩
      have hn1' : (mag b).length = n1 + 1 := by omega
      obtain ⟨bt, hbt⟩ : ∃ bt, bt = (mag b).getD n1 0 := ⟨_, rfl⟩
      have hbtB : bt < 4294967296 := by rw [hbt]; exact getD_lt (mag_digs b) _
      have hbt0 := top_ne hn1' hbt
      have e1 := ix_dg (mag b) n1 (by omega)
      rw [← hbt] at e1
      have r1 : IntKind.i64.wrap ((n : Int) - 1) = n1 := by rw [wrap_i64]; omega
      have hl' : ¬ (n : Int) = 1 := by omega
      have hlb : n1 < n := by omega
      simp only [eM, eW] at c1 ⊢
      simp [c1, h3, hl', ← hn]
      refine loop_go (fun m st => ∃ s : Nat, s + m = 32 ∧ s ≤ 31 ∧ bt * 2 ^ s < 4294967296 ∧ st = sDv1 a b s) (s0 := sDv1 a b 0) (n := 32)
        (snd_of (by simp [LeT, sDv1]) (by simp [sDv1])) ⟨0, by omega, by omega, by simpa using hbtB, rfl⟩ ?_
      rintro m st ⟨s, hsm, hs31, hsB, rfl⟩ KN hN
      obtain ⟨y, hy⟩ : ∃ y, y = bt * 2 ^ s := ⟨_, rfl⟩
      have q1 : IntKind.u32.wrap ((bt : Int) * 2 ^ s) = y := by
        have : (bt : Int) * 2 ^ s = y := by rw [hy]; simp
        rw [this, wrap_u32]; omega
      have q2 : min s 32 = s := by omega
      by_cases hlt : y < 2147483648
      · have q3 : (y : Int) < 2147483648 := by omega
        have q4 : IntKind.u64.wrap ((s : Int) + 1) = s + 1 := by rw [wrap_u64]; omega
        have hs30 : s ≤ 30 := by
          rcases Nat.lt_or_ge s 31 with h | h
          · omega
          · have : s = 31 := by omega
            have h5 : 1 * 2 ^ s ≤ bt * 2 ^ s := Nat.mul_le_mul_right _ (by omega)
            rw [this] at h5
            rw [this] at hy
            omega
        simp [sDv1, ← hn, r1, hlb, e1, dg, q1, q2, q3, q4]
        refine hN _ (nx (m := m - 1) (s'' := sDv1 a b (s + 1)) (snd_of (by simp [LeT, sDv1]) (by simp [sDv1])) ⟨s + 1, by omega, by omega, by rw [Nat.pow_succ, ← Nat.mul_assoc, ← hy]; omega, rfl⟩ (by omega))
      · have q3 : ¬ (y : Int) < 2147483648 := by omega
        clear hN
        have hm := sDiv_main (a := a) (b := b) (s := s) (n := n) (n1 := n1) (bt := bt) (y := y) ha hb hb0 hq hr hab hn hn2 hn1 hn1' hbt hbt0 hs31 hsB hy hlt
        simp only [sdR8, sdB, Tryz.f37, Option.getD, sq2, sDv1e] at hm
        have hx := fun K' => sDiv_exit1 (a := a) (b := b) (s := s) (n := n) (n1 := n1) (bt := bt) (y := y) hn hlb r1 e1 q1 q2 q3 KN K'
        simp only [sdL1, sdB, Tryz.f37, Option.getD, sq1, sq2, inB, inL, sDv1e] at hx
        exact hx _ hm
theorem l1MagDiv_ok : callable Tryz.prog 37 = true := by kernel_rfl
end Go.Proofs.YtdkgkcnllhcamaaGreat.Ae

/-! spec: whole numbers of any size. No condition. -/
namespace Go.Proofs.YtdkgkcnllhcamaaGreat.Ae
open Go Go.RowKit Go.Proofs.YtdkgkcnllhcamaaGreat.Dig
variable {N : NR}

@[simp] theorem range1 : List.range 1 = [0] := rfl
@[simp] theorem range2 : List.range 2 = [0, 1] := rfl
@[simp] theorem range3 : List.range 3 = [0, 1, 2] := rfl
@[simp] theorem range4 : List.range 4 = [0, 1, 2, 3] := rfl
@[simp] theorem cells_z : (Value.agg #[Value.bool false, Value.slice none 0 0]).cells.size = 2 := by rfl
@[simp] theorem cells_q : (Value.agg #[Value.int .i64 0, Value.int .i64 0]).cells.size = 2 := by rfl
@[simp] theorem cells_r : (Value.agg #[Value.int .i64 0, Value.int .i64 0, Value.slice none 0 0]).cells.size = 3 := by rfl
theorem Sub.agg2 {a b a' b' : D} (ha : Sub a a') (hb : Sub b b') : Sub (.agg [a, b]) (.agg [a', b']) := Sub.agg rfl (fun i d d' h h' => by
  match i with
  | 0 => simp at h h'; subst h h'; exact ha
  | 1 => simp at h h'; subst h h'; exact hb
  | i + 2 => simp at h)
theorem Sub.agg3 {a b c a' b' c' : D} (ha : Sub a a') (hb : Sub b b') (hc : Sub c c') : Sub (.agg [a, b, c]) (.agg [a', b', c']) := Sub.agg rfl (fun i d d' h h' => by
  match i with
  | 0 => simp at h h'; subst h h'; exact ha
  | 1 => simp at h h'; subst h h'; exact hb
  | 2 => simp at h h'; subst h h'; exact hc
  | i + 3 => simp at h)
@[simp] theorem sub_z0 : Sub (.agg [.lit (.bool false), .lit (.slice none 0 0)]) (.agg [.lit (.bool false), .sl 1 []]) = True := by
  simp only [eq_iff_iff, iff_true]; exact Sub.agg2 (Sub.refl _) (Sub.nil 1)
/-- A whole number as the code holds it. -/
def eZ (z : Int) : D := .agg [.lit (.bool (decide (z < 0))), eM z.natAbs]
theorem eZ_inj {a b : Int} (h : eZ a = eZ b) : a = b := by
  simp only [eZ, D.agg.injEq, List.cons.injEq, and_true, D.lit.injEq, Value.bool.injEq, decide_eq_decide] at h
  have := eM_inj h.2
  omega
def zE (p : Z1) : List D := [eZ p.a]
theorem zE_inj (p q : Z1) (h : zE p = zE q) : p = q := by
  obtain ⟨a⟩ := p; obtain ⟨c⟩ := q
  simp only [zE, List.cons.injEq, and_true] at h
  rw [eZ_inj h]
structure Z2 where
  a : Int
  b : Int
def zzE (p : Z2) : List D := [eZ p.a, eZ p.b]
theorem zzE_inj (p q : Z2) (h : zzE p = zzE q) : p = q := by
  obtain ⟨a, b⟩ := p; obtain ⟨c, d⟩ := q
  simp only [zzE, List.cons.injEq, and_true] at h
  rw [eZ_inj h.1, eZ_inj h.2]
def SZ (z : Int) : Prop := Sm z.natAbs
theorem mag_len_pos {n : Nat} (h : 0 < n) : 0 < (mag n).length := by
  rcases Nat.eq_zero_or_pos (mag n).length with h1 | h1
  · rw [mag_len_zero] at h1; omega
  · exact h1

/-! spec.l1ZOf -/
noncomputable def zOfC := ctD z1E (fun p => I64 p.a) (fun p => [eZ p.a])
theorem zOfC_at (a : Int) : zOfC [i64D a] = (I64 a, [eZ a]) := ctD_at z1E_inj ⟨a⟩
theorem l1ZOf_spec : SpecD N Tryz.prog 15 zOfC := by
  refine rdD (mf := fun f => false) (tbl_cons (f := 34) (c := .data absC) l1Abs_spec l1Abs_ok (tbl_cons (f := 45) (c := .data magC) l1Mag_spec l1Mag_ok tbl_nil)) (fn := Tryz.f15) (by kernel_rfl) rfl (by kernel_rfl) ?_
  rintro ⟨x⟩ hx
  have hx : I64 x := hx
  refine ⟨by show 1 ≤ 9; decide, ?_⟩
  have t1 := absC_at' x
  have t2 := magC_at' x.natAbs
  have t3 : tbl [(34, Ct.data absC), (45, .data magC)] 45 = some (.data magC) := rfl
  have t4 : tbl [(34, Ct.data absC), (45, .data magC)] 34 = some (.data absC) := rfl
  have hb : x.natAbs < 18446744073709551616 := by unfold I64 at hx; omega
  simp only [z1E, i64D, eZ, Tryz.f15]
  generalize x.natAbs = y at *
  simp [hx, hb] at t1 t2
  simp [eM, eW, t1, t2, t3, t4]
theorem l1ZOf_ok : callable Tryz.prog 15 = true := by kernel_rfl

/-! spec.l1ZNeg -/
noncomputable def zNegC := ctD zE (fun p => SZ p.a) (fun p => [eZ (-p.a)])
theorem zNegC_at (a : Int) : zNegC [eZ a] = (SZ a, [eZ (-a)]) := ctD_at zE_inj ⟨a⟩
theorem l1ZNeg_spec : SpecD N Tryz.prog 40 zNegC := by
  refine rdD (mf := fun f => false) tbl_nil (fn := Tryz.f40) (by kernel_rfl) rfl (by kernel_rfl) ?_
  rintro ⟨x⟩ hx
  have hx : SZ x := hx
  refine ⟨by show 1 ≤ 15; decide, ?_⟩
  simp only [zE, Tryz.f40]
  rcases Int.lt_trichotomy x 0 with h | h | h
  · have h1 : ¬ 0 < x := by omega
    simp [eZ, eM, eW, h, h1]
  · subst h
    simp [eZ, eM, eW, mag_zero]
  · have h1 : ¬ x < 0 := by omega
    have h2 := mag_len_pos (n := x.natAbs) (by omega)
    simp [eZ, eM, eW, h, h1, h2]
theorem l1ZNeg_ok : callable Tryz.prog 40 = true := by kernel_rfl

/-! spec.l1ZAdd, l1ZSub -/
noncomputable def zAddC := ctD zzE (fun p => SZ p.a ∧ SZ p.b) (fun p => [eZ (p.a + p.b)])
theorem zAddC_at (a b : Int) : zAddC [eZ a, eZ b] = ((SZ a ∧ SZ b), [eZ (a + b)]) := ctD_at zzE_inj ⟨a, b⟩
noncomputable def zAddTb : List (FuncId × Ct) := [(38, .data addC), (43, .data sCmpC), (44, .data subC)]
theorem zAddTb_ok : TbOK N Tryz.prog (tbl zAddTb) := tbl_cons (c := .data addC) l1MagAdd_spec l1MagAdd_ok (tbl_cons (c := .data sCmpC) l1MagCmp_spec l1MagCmp_ok (tbl_cons (c := .data subC) l1MagSub_spec l1MagSub_ok tbl_nil))

@[simp] theorem zAddTb1 : tbl zAddTb 38 = some (.data addC) := rfl
@[simp] theorem zAddTb2 : tbl zAddTb 43 = some (.data sCmpC) := rfl
@[simp] theorem zAddTb3 : tbl zAddTb 44 = some (.data subC) := rfl
theorem l1ZAdd_spec : SpecD N Tryz.prog 14 zAddC := by
  refine rdD (mf := fun f => false) zAddTb_ok (fn := Tryz.f14) (by kernel_rfl) rfl (by kernel_rfl) ?_
  rintro ⟨a, b⟩ ⟨hsa, hsb⟩
  have hsa : Sm a.natAbs := hsa
  have hsb : Sm b.natAbs := hsb
  refine ⟨by show 2 ≤ 52; decide, ?_⟩
  simp only [zzE, eZ, Tryz.f14]
  have c1 := addC_at a.natAbs b.natAbs
  have c2 := sCmpC_at a.natAbs b.natAbs
  have c3 := subC_at a.natAbs b.natAbs
  have c4 := subC_at b.natAbs a.natAbs
  simp only [hsa, hsb, and_self, true_and] at c1 c2 c3 c4
  by_cases hab : (a < 0 ↔ b < 0)
  · have e : a.natAbs + b.natAbs = (a + b).natAbs := by omega
    rw [e] at c1
    by_cases ha : a < 0
    · have hb : b < 0 := hab.1 ha
      have hc : a + b < 0 := by omega
      have h2 := mag_len_pos (n := (a + b).natAbs) (by omega)
      generalize a.natAbs = p at *
      generalize b.natAbs = q at *
      generalize (a + b).natAbs = r at *
      simp only [eM, eW] at c1 c2 c3 c4 ⊢
      simp [ha, hb, hc, c1, h2]
    · have hb : ¬ b < 0 := fun h => ha (hab.2 h)
      have hc : ¬ a + b < 0 := by omega
      generalize a.natAbs = p at *
      generalize b.natAbs = q at *
      generalize (a + b).natAbs = r at *
      simp only [eM, eW] at c1 c2 c3 c4 ⊢
      simp [ha, hb, hc, c1]
  · by_cases ha : a < 0
    · have hb : ¬ b < 0 := fun h => hab ⟨fun _ => h, fun _ => ha⟩
      rcases Nat.lt_trichotomy a.natAbs b.natAbs with h | h | h
      · have hs : sgnC a.natAbs b.natAbs = -1 := by unfold sgnC; rw [if_pos h]
        have e : b.natAbs - a.natAbs = (a + b).natAbs := by omega
        have hc : ¬ a + b < 0 := by omega
        have hle : a.natAbs ≤ b.natAbs := by omega
        rw [hs] at c2
        simp only [hle] at c4
        rw [e] at c4
        generalize a.natAbs = p at *
        generalize b.natAbs = q at *
        generalize (a + b).natAbs = r at *
        simp only [eM, eW] at c1 c2 c3 c4 ⊢
        simp [ha, hb, hc, c2, c4]
      · have hs : sgnC a.natAbs b.natAbs = 0 := by unfold sgnC; rw [if_neg (by omega), if_neg (by omega)]
        have e : (a + b).natAbs = 0 := by omega
        have hc : ¬ a + b < 0 := by omega
        rw [hs] at c2
        rw [e]
        generalize a.natAbs = p at *
        generalize b.natAbs = q at *
        simp only [eM, eW] at c1 c2 c3 c4 ⊢
        simp [ha, hb, hc, c2, mag_zero]
      · have hs : sgnC a.natAbs b.natAbs = 1 := by unfold sgnC; rw [if_neg (by omega), if_pos h]
        have e : a.natAbs - b.natAbs = (a + b).natAbs := by omega
        have hc : a + b < 0 := by omega
        have hle : b.natAbs ≤ a.natAbs := by omega
        rw [hs] at c2
        simp only [hle] at c3
        rw [e] at c3
        generalize a.natAbs = p at *
        generalize b.natAbs = q at *
        generalize (a + b).natAbs = r at *
        simp only [eM, eW] at c1 c2 c3 c4 ⊢
        simp [ha, hb, hc, c2, c3]
    · have hb : b < 0 := Decidable.byContradiction fun h => hab ⟨fun h1 => absurd h1 ha, fun h1 => absurd h1 h⟩
      rcases Nat.lt_trichotomy a.natAbs b.natAbs with h | h | h
      · have hs : sgnC a.natAbs b.natAbs = -1 := by unfold sgnC; rw [if_pos h]
        have e : b.natAbs - a.natAbs = (a + b).natAbs := by omega
        have hc : a + b < 0 := by omega
        have hle : a.natAbs ≤ b.natAbs := by omega
        rw [hs] at c2
        simp only [hle] at c4
        rw [e] at c4
        generalize a.natAbs = p at *
        generalize b.natAbs = q at *
        generalize (a + b).natAbs = r at *
        simp only [eM, eW] at c1 c2 c3 c4 ⊢
        simp [ha, hb, hc, c2, c4]
      · have hs : sgnC a.natAbs b.natAbs = 0 := by unfold sgnC; rw [if_neg (by omega), if_neg (by omega)]
        have e : (a + b).natAbs = 0 := by omega
        have hc : ¬ a + b < 0 := by omega
        rw [hs] at c2
        rw [e]
        generalize a.natAbs = p at *
        generalize b.natAbs = q at *
        simp only [eM, eW] at c1 c2 c3 c4 ⊢
        simp [ha, hb, hc, c2, mag_zero]
      · have hs : sgnC a.natAbs b.natAbs = 1 := by unfold sgnC; rw [if_neg (by omega), if_pos h]
        have e : a.natAbs - b.natAbs = (a + b).natAbs := by omega
        have hc : ¬ a + b < 0 := by omega
        have hle : b.natAbs ≤ a.natAbs := by omega
        rw [hs] at c2
        simp only [hle] at c3
        rw [e] at c3
        generalize a.natAbs = p at *
        generalize b.natAbs = q at *
        generalize (a + b).natAbs = r at *
        simp only [eM, eW] at c1 c2 c3 c4 ⊢
        simp [ha, hb, hc, c2, c3]
theorem l1ZAdd_ok : callable Tryz.prog 14 = true := by kernel_rfl
noncomputable def zSubC := ctD zzE (fun p => SZ p.a ∧ SZ p.b) (fun p => [eZ (p.a - p.b)])
theorem zSubC_at (a b : Int) : zSubC [eZ a, eZ b] = ((SZ a ∧ SZ b), [eZ (a - b)]) := ctD_at zzE_inj ⟨a, b⟩
theorem SZ_neg {a : Int} : SZ (-a) ↔ SZ a := by unfold SZ; rw [Int.natAbs_neg]
@[simp] theorem eZ_size (z : Int) : (eZ z).size = 2 := rfl
@[simp] theorem eZ_agg (z : Int) : (eZ z).isAgg = true := rfl
theorem l1ZSub_spec : SpecD N Tryz.prog 79 zSubC := by
  refine rdD (mf := fun f => false) (tbl_cons (f := 40) (c := .data zNegC) l1ZNeg_spec l1ZNeg_ok (tbl_cons (f := 14) (c := .data zAddC) l1ZAdd_spec l1ZAdd_ok tbl_nil)) (fn := Tryz.f79) (by kernel_rfl) rfl (by kernel_rfl) ?_
  rintro ⟨a, b⟩ ⟨hsa, hsb⟩
  have hsa : SZ a := hsa
  have hsb : SZ b := hsb
  refine ⟨by show 2 ≤ 9; decide, ?_⟩
  simp only [zzE, Tryz.f79]
  have c1 := zNegC_at b
  have c2 := zAddC_at a (-b)
  simp [SZ_neg, hsa, hsb, ← Int.sub_eq_add_neg] at c1 c2
  have t1 : tbl [(40, Ct.data zNegC), (14, .data zAddC)] 40 = some (.data zNegC) := rfl
  have t2 : tbl [(40, Ct.data zNegC), (14, .data zAddC)] 14 = some (.data zAddC) := rfl
  simp [c1, c2, t1, t2]
theorem l1ZSub_ok : callable Tryz.prog 79 = true := by kernel_rfl

/-! spec.l1ZMul, l1ZSign, l1ZCmp -/
noncomputable def zMulC := ctD zzE (fun p => SZ p.a ∧ SZ p.b) (fun p => [eZ (p.a * p.b)])
theorem zMulC_at (a b : Int) : zMulC [eZ a, eZ b] = ((SZ a ∧ SZ b), [eZ (a * b)]) := ctD_at zzE_inj ⟨a, b⟩
theorem mul_neg_iff {a b : Int} (ha : a ≠ 0) (hb : b ≠ 0) : a * b < 0 ↔ ((a < 0) ≠ (b < 0)) := by
  rcases Int.lt_trichotomy a 0 with h1 | h1 | h1
  · rcases Int.lt_trichotomy b 0 with h2 | h2 | h2
    · have := Int.mul_pos_of_neg_of_neg h1 h2
      simp [h1, h2]; omega
    · exact absurd h2 hb
    · have := Int.mul_neg_of_neg_of_pos h1 h2
      simp [h1, this]; omega
  · exact absurd h1 ha
  · rcases Int.lt_trichotomy b 0 with h2 | h2 | h2
    · have := Int.mul_neg_of_pos_of_neg h1 h2
      simp [h2, this]; omega
    · exact absurd h2 hb
    · have := Int.mul_pos h1 h2
      have h3 : ¬ a < 0 := by omega
      have h4 : ¬ b < 0 := by omega
      simp [h3, h4]; omega
theorem l1ZMul_spec : SpecD N Tryz.prog 39 zMulC := by
  refine rdD (mf := fun f => false) (tbl_cons (f := 77) (c := .data mulC) l1MagMul_spec l1MagMul_ok tbl_nil) (fn := Tryz.f39) (by kernel_rfl) rfl (by kernel_rfl) ?_
  rintro ⟨a, b⟩ ⟨hsa, hsb⟩
  have hsa : Sm a.natAbs := hsa
  have hsb : Sm b.natAbs := hsb
  refine ⟨by show 2 ≤ 23; decide, ?_⟩
  simp only [zzE, eZ, Tryz.f39]
  have c1 := mulC_at a.natAbs b.natAbs
  simp only [hsa, hsb, and_self] at c1
  rw [← Int.natAbs_mul] at c1
  by_cases h0 : a * b = 0
  · have h1 : ¬ a * b < 0 := by omega
    have h2 : (a * b).natAbs = 0 := by omega
    rw [h2] at c1
    rw [h2]
    generalize a * b = z at *
    generalize a.natAbs = p at *
    generalize b.natAbs = q at *
    simp only [eM, eW, mag_zero] at c1 ⊢
    by_cases ha : a < 0 <;> by_cases hb : b < 0 <;> simp [ha, hb, h1, c1]
  · have ha0 : a ≠ 0 := fun h => h0 (by rw [h, Int.zero_mul])
    have hb0 : b ≠ 0 := fun h => h0 (by rw [h, Int.mul_zero])
    have h1 := mul_neg_iff ha0 hb0
    have h2 := mag_len_pos (n := (a * b).natAbs) (by omega)
    have hd : decide (a * b < 0) = (decide (a < 0) != decide (b < 0)) := by
      rw [Bool.eq_iff_iff]; simp only [decide_eq_true_eq, h1]
      by_cases ha : a < 0 <;> by_cases hb : b < 0 <;> simp [ha, hb]
    rw [hd]
    generalize (a * b).natAbs = r at *
    generalize a.natAbs = p at *
    generalize b.natAbs = q at *
    simp only [eM, eW] at c1 ⊢
    by_cases ha : a < 0 <;> by_cases hb : b < 0 <;> simp [ha, hb, c1, h2]
theorem l1ZMul_ok : callable Tryz.prog 39 = true := by kernel_rfl
noncomputable def zSignC := ctD zE (fun p => SZ p.a) (fun p => [i64D p.a.sign])
theorem zSignC_at (a : Int) : zSignC [eZ a] = (SZ a, [i64D a.sign]) := ctD_at zE_inj ⟨a⟩
theorem l1ZSign_spec : SpecD N Tryz.prog 78 zSignC := by
  refine rdD (mf := fun f => false) tbl_nil (fn := Tryz.f78) (by kernel_rfl) rfl (by kernel_rfl) ?_
  rintro ⟨x⟩ hx
  refine ⟨by show 1 ≤ 9; decide, ?_⟩
  simp only [zE, i64D, Tryz.f78]
  rcases Int.lt_trichotomy x 0 with h | h | h
  · have h1 : ¬ 0 < x := by omega
    have h2 := mag_len_pos (n := x.natAbs) (by omega)
    have h3 : mag x.natAbs ≠ [] := fun h => by rw [h] at h2; simp at h2
    rw [Int.sign_eq_neg_one_of_neg h]
    simp [eZ, eM, eW, h, h1, h3]
  · subst h
    simp [eZ, eM, eW, mag_zero]
  · have h1 : ¬ x < 0 := by omega
    have h2 := mag_len_pos (n := x.natAbs) (by omega)
    have h3 : mag x.natAbs ≠ [] := fun h => by rw [h] at h2; simp at h2
    rw [Int.sign_eq_one_of_pos h]
    simp [eZ, eM, eW, h, h1, h3]
theorem l1ZSign_ok : callable Tryz.prog 78 = true := by kernel_rfl
noncomputable def zCmpC := ctD zzE (fun p => SZ p.a ∧ SZ p.b ∧ SZ (p.a - p.b)) (fun p => [i64D (p.a - p.b).sign])
theorem zCmpC_at (a b : Int) : zCmpC [eZ a, eZ b] = ((SZ a ∧ SZ b ∧ SZ (a - b)), [i64D (a - b).sign]) := ctD_at zzE_inj ⟨a, b⟩
theorem l1ZCmp_spec : SpecD N Tryz.prog 49 zCmpC := by
  refine rdD (mf := fun f => false) (tbl_cons (f := 79) (c := .data zSubC) l1ZSub_spec l1ZSub_ok (tbl_cons (f := 78) (c := .data zSignC) l1ZSign_spec l1ZSign_ok tbl_nil)) (fn := Tryz.f49) (by kernel_rfl) rfl (by kernel_rfl) ?_
  rintro ⟨a, b⟩ ⟨hsa, hsb, hsc⟩
  have hsa : SZ a := hsa
  have hsb : SZ b := hsb
  have hsc : SZ (a - b) := hsc
  refine ⟨by show 2 ≤ 9; decide, ?_⟩
  simp only [zzE, Tryz.f49]
  have c1 := zSubC_at a b
  have c2 := zSignC_at (a - b)
  simp only [hsa, hsb, hsc, and_self] at c1 c2
  have t1 : tbl [(79, Ct.data zSubC), (78, .data zSignC)] 79 = some (.data zSubC) := rfl
  have t2 : tbl [(79, Ct.data zSubC), (78, .data zSignC)] 78 = some (.data zSignC) := rfl
  simp [c1, c2, t1, t2]
theorem l1ZCmp_ok : callable Tryz.prog 49 = true := by kernel_rfl
end Go.Proofs.YtdkgkcnllhcamaaGreat.Ae

/-! spec: greatest common divisors, whole numbers of one word. No condition. -/
namespace Go.Proofs.YtdkgkcnllhcamaaGreat.Ae
open Go Go.RowKit Go.Proofs.YtdkgkcnllhcamaaGreat.Dig
variable {N : NR}

/-! spec.l1Gcd -/
def uuE (p : N2) : List D := [u64D p.a, u64D p.b]
theorem uuE_inj (p q : N2) (h : uuE p = uuE q) : p = q := by
  obtain ⟨a, b⟩ := p; obtain ⟨c, d⟩ := q
  simp only [uuE, List.cons.injEq, and_true] at h
  rw [u64D_inj h.1, u64D_inj h.2]
noncomputable def gcdC := ctD uuE (fun p => p.a < 18446744073709551616 ∧ p.b < 18446744073709551616) (fun p => [u64D (Nat.gcd p.a p.b)])
theorem gcdC_at (a b : Nat) : gcdC [u64D a, u64D b] = ((a < 18446744073709551616 ∧ b < 18446744073709551616), [u64D (Nat.gcd a b)]) := ctD_at uuE_inj ⟨a, b⟩
def gcdS (a b : Nat) : St := ⟨[.dat (.lit (.int .u64 a)), .dat (.lit (.int .u64 b)), .any, .any, .any, .any, .any, .any, .any, .any, .any, .any], [none, none, none, none, none, none, none, none, none, none, none, none]⟩
theorem l1Gcd_spec : SpecD N Tryz.prog 33 gcdC := by
  refine rdD (mf := fun f => false) tbl_nil (fn := Tryz.f33) (by kernel_rfl) rfl (by kernel_rfl) ?_
  rintro ⟨a, b⟩ ⟨ha, hb⟩
  have ha : a < 18446744073709551616 := ha
  have hb : b < 18446744073709551616 := hb
  refine ⟨by show 2 ≤ 12; decide, ?_⟩
  simp only [uuE, u64D, Tryz.f33]
  generalize hg : Nat.gcd a b = g
  simp
  refine loop_go (fun n st => ∃ x y : Nat, x < 18446744073709551616 ∧ y < 18446744073709551616 ∧ Nat.gcd x y = g ∧ n = y ∧ st = gcdS x y) (s0 := gcdS a b) (n := b) (snd_of (by simp [LeT, gcdS]) (by simp [gcdS])) ⟨a, b, ha, hb, hg, rfl, rfl⟩ ?_
  rintro y st ⟨x, _, hx, hy, hxy, rfl, rfl⟩ KN hN
  rcases Nat.eq_zero_or_pos y with h0 | h0
  · subst h0
    rw [Nat.gcd_zero_right] at hxy
    subst hxy
    simp [gcdS]
  · have h1 : ¬ y = 0 := by omega
    obtain ⟨r, hr⟩ : ∃ r, r = x % y := ⟨_, rfl⟩
    have hry : r < y := by rw [hr]; exact Nat.mod_lt _ h0
    have q1 := tmod_nat x y
    rw [← hr] at q1
    have q2 : IntKind.u64.wrap (r : Int) = r := by rw [wrap_u64]; omega
    simp [gcdS, h1, q1, q2]
    refine hN _ (nx (m := r) (s'' := gcdS y r) (snd_of (by simp [LeT, gcdS]) (by simp [gcdS])) ⟨y, r, hy, by omega, ?_, rfl, rfl⟩ hry)
    rw [hr, ← hxy, Nat.gcd_comm y, ← Nat.gcd_rec, Nat.gcd_comm]
theorem l1Gcd_ok : callable Tryz.prog 33 = true := by kernel_rfl

/-! spec.l1Small -/
noncomputable def smallC := ctD z1E (fun p => I64 p.a) (fun p => [.lit (.bool (decide (-2147483648 < p.a ∧ p.a < 2147483648)))])
theorem smallC_at (a : Int) : smallC [i64D a] = (I64 a, [.lit (.bool (decide (-2147483648 < a ∧ a < 2147483648)))]) := ctD_at z1E_inj ⟨a⟩
theorem l1Small_spec : SpecD N Tryz.prog 73 smallC := by
  refine rdD (mf := fun f => false) tbl_nil (fn := Tryz.f73) (by kernel_rfl) rfl (by kernel_rfl) ?_
  rintro ⟨a⟩ ha
  refine ⟨by show 1 ≤ 9; decide, ?_⟩
  simp only [z1E, i64D, Tryz.f73]
  by_cases h1 : -2147483648 < a <;> by_cases h2 : a < 2147483648 <;> simp [h1, h2]
theorem l1Small_ok : callable Tryz.prog 73 = true := by kernel_rfl

/-! spec.l1ZGcd -/
noncomputable def zGcdC := ctD zzE (fun p => SZ p.a ∧ SZ p.b) (fun p => [eZ (Int.gcd p.a p.b)])
theorem zGcdC_at (a b : Int) : zGcdC [eZ a, eZ b] = ((SZ a ∧ SZ b), [eZ (Int.gcd a b)]) := ctD_at zzE_inj ⟨a, b⟩
def zGcdS (a b : Int) (x y : Nat) : St := ⟨[.any, .any, .any, .any, .obj 4 [] 0, .dat (eM x), .dat (eM y), .any, .any, .any, .any, .any, .any, .any, .any, .any, .any, .any, .any, .any, .any, .any, .any, .any, .any, .any], [none, none, some (.box (eZ a)), some (.box (eZ b)), some (.box (.agg [.lit (.bool false), .lit (.slice none 0 0)])), none, none, none, none, none, none, none, none, none, none, none, none, none, none, none, none, none, none, none, none, none]⟩
theorem Sm_le {a b : Nat} (h : a ≤ b) (hb : Sm b) : Sm a := Nat.lt_of_le_of_lt (mag_len_le h) hb
theorem l1ZGcd_spec : SpecD N Tryz.prog 41 zGcdC := by
  refine rdD (mf := fun f => false) (tbl_cons (f := 37) (c := .data divC) l1MagDiv_spec l1MagDiv_ok tbl_nil) (fn := Tryz.f41) (by kernel_rfl) rfl (by kernel_rfl) ?_
  rintro ⟨a, b⟩ ⟨ha, hb⟩
  have ha : Sm a.natAbs := ha
  have hb : Sm b.natAbs := hb
  refine ⟨by show 2 ≤ 26; decide, ?_⟩
  simp only [zzE, Tryz.f41]
  generalize hg : Int.gcd a b = g
  have hg' : Nat.gcd a.natAbs b.natAbs = g := hg
  simp [eZ, eM, eW]
  refine loop_go (fun n st => ∃ x y : Nat, Sm x ∧ Sm y ∧ Nat.gcd x y = g ∧ n = y ∧ st = zGcdS a b x y) (s0 := zGcdS a b a.natAbs b.natAbs) (n := b.natAbs) (snd_of (by simp [LeT, zGcdS, eZ, eM, eW]) (by simp [zGcdS, eZ, eM, eW])) ⟨_, _, ha, hb, hg', rfl, rfl⟩ ?_
  rintro y st ⟨x, _, hx, hy, hxy, rfl, rfl⟩ KN hN
  rcases Nat.eq_zero_or_pos y with h0 | h0
  · subst h0
    rw [Nat.gcd_zero_right] at hxy
    subst hxy
    have hx0 : ¬ ((x : Nat) : Int) < 0 := by omega
    simp [zGcdS, eZ, eM, eW, mag_zero, hx0]
  · have h1 := mag_len_pos h0
    obtain ⟨r, hr⟩ : ∃ r, r = x % y := ⟨_, rfl⟩
    obtain ⟨q, hq⟩ : ∃ q, q = x / y := ⟨_, rfl⟩
    have hry : r < y := by rw [hr]; exact Nat.mod_lt _ h0
    have c1 := divC_at x y
    rw [← hr, ← hq] at c1
    simp only [hx, hy, h0, and_self, eM, eW] at c1
    simp [zGcdS, eZ, eM, eW, h1, c1]
    refine hN _ (nx (m := r) (s'' := zGcdS a b y r) (snd_of (by simp [LeT, zGcdS, eZ, eM, eW]) (by simp [zGcdS, eZ, eM, eW])) ⟨y, r, hy, Sm_le (Nat.le_of_lt hry) hy, ?_, rfl, rfl⟩ hry)
    rw [hr, ← hxy, Nat.gcd_comm y, ← Nat.gcd_rec, Nat.gcd_comm]
theorem l1ZGcd_ok : callable Tryz.prog 41 = true := by kernel_rfl

/-! spec.l1ZInt -/
structure ZM where
  a : Int
  m : Nat
def zmE (p : ZM) : List D := [eZ p.a, u64D p.m]
theorem zmE_inj (p q : ZM) (h : zmE p = zmE q) : p = q := by
  obtain ⟨a, b⟩ := p; obtain ⟨c, d⟩ := q
  simp only [zmE, List.cons.injEq, and_true] at h
  rw [eZ_inj h.1, u64D_inj h.2]
noncomputable def zIntC := ctD zmE (fun p => SZ p.a ∧ p.m ≤ 9223372036854775807) (fun p => [i64D (if p.a.natAbs ≤ p.m then p.a else 0), .lit (.bool (decide (p.a.natAbs ≤ p.m)))])
theorem zIntC_at (a : Int) (m : Nat) : zIntC [eZ a, u64D m] = ((SZ a ∧ m ≤ 9223372036854775807), [i64D (if a.natAbs ≤ m then a else 0), .lit (.bool (decide (a.natAbs ≤ m)))]) := ctD_at zmE_inj ⟨a, m⟩
def zIntS (a : Int) (m x n : Nat) : St := ⟨[.any, .dat (.lit (.int .u64 m)), .obj 2 [] 0, .any, .any, .any, .dat (.lit (.int .u64 x)), .dat (.lit (.int .i64 ((n : Int) - 1))), .any, .any, .any, .any, .any, .any, .any, .any, .any, .any, .any, .any, .any, .any, .any, .any, .any, .any, .any, .any, .any, .any, .any, .any, .any, .any, .any, .any, .any, .any, .any], [none, none, some (.box (eZ a)), none, none, none, none, none, none, none, none, none, none, none, none, none, none, none, none, none, none, none, none, none, none, none, none, none, none, none, none, none, none, none, none, none, none, none, none]⟩
theorem l1ZInt_spec : SpecD N Tryz.prog 50 zIntC := by
  refine rdD (mf := fun f => false) tbl_nil (fn := Tryz.f50) (by kernel_rfl) rfl (by kernel_rfl) ?_
  rintro ⟨a, m⟩ ⟨ha, hm⟩
  have ha : Sm a.natAbs := ha
  have hm : m ≤ 9223372036854775807 := hm
  refine ⟨by show 2 ≤ 39; decide, ?_⟩
  simp only [zmE, u64D, i64D, Tryz.f50]
  by_cases hl : 2 < (mag a.natAbs).length
  · have h1 : ¬ a.natAbs ≤ m := by
      intro h2
      have h3 : a.natAbs < B ^ 2 := by simp only [B]; omega
      have := mag_lt.2 h3
      omega
    have hl' : (2 : Int) < (mag a.natAbs).length := by omega
    simp [eZ, eM, eW, h1, hl']
  · have hl' : ¬ (2 : Int) < (mag a.natAbs).length := by omega
    have r1 : IntKind.i64.wrap (((mag a.natAbs).length : Int) - 1) = (mag a.natAbs).length - 1 := by rw [wrap_i64]; omega
    simp [eZ, eM, eW, hl', r1]
    refine loop_go (fun n st => n ≤ (mag a.natAbs).length ∧ st = zIntS a m (val ((mag a.natAbs).drop n)) n) (s0 := zIntS a m 0 (mag a.natAbs).length) (n := (mag a.natAbs).length) (snd_of (by simp [LeT, zIntS, eZ, eM, eW]) (by simp [zIntS, eZ, eM, eW])) ⟨Nat.le_refl _, by rw [List.drop_eq_nil_of_le (Nat.le_refl _)]; rfl⟩ ?_
    rintro n st ⟨hn, rfl⟩ KN hN
    cases n with
    | zero =>
      rw [List.drop_zero, val_mag]
      have hB : a.natAbs < 18446744073709551616 := by
        have := mag_lt.1 (by omega : (mag a.natAbs).length ≤ 2)
        simp only [B] at this; omega
      obtain ⟨v, hv⟩ : ∃ v, v = a.natAbs := ⟨_, rfl⟩
      by_cases hle : v ≤ m
      · have q1 : ¬ (m : Int) < v := by omega
        have q2 : IntKind.i64.wrap (v : Int) = v := by rw [wrap_i64]; omega
        by_cases hneg : a < 0
        · have q3 : IntKind.i64.wrap (-(v : Int)) = a := by rw [wrap_i64]; omega
          rw [← hv]
          simp [zIntS, eZ, eM, eW, ← hv, hle, hneg, q1, q2, q3]
        · have q3 : (v : Int) = a := by omega
          rw [← hv]
          simp only [q3] at q1 q2
          simp [zIntS, eZ, eM, eW, ← hv, hle, hneg, q1, q2, q3]
      · have q1 : (m : Int) < v := by omega
        rw [← hv]
        simp [zIntS, eZ, eM, eW, ← hv, hle, q1]
    | succ k =>
      obtain ⟨d, hd⟩ : ∃ d, d = (mag a.natAbs).getD k 0 := ⟨_, rfl⟩
      have hdB : d < 4294967296 := by rw [hd]; exact getD_lt (mag_digs _) _
      have hk : k < (mag a.natAbs).length := by omega
      have e1 := ix_dg _ _ hk
      rw [← hd] at e1
      obtain ⟨x, hx⟩ : ∃ x, x = val ((mag a.natAbs).drop (k + 1)) := ⟨_, rfl⟩
      have hxB : x < 4294967296 := by
        have h1 := val_lt ((mag_digs a.natAbs).drop (k + 1))
        rw [← hx] at h1
        have h2 : ((mag a.natAbs).drop (k + 1)).length ≤ 1 := by rw [List.length_drop]; omega
        have h3 : B ^ ((mag a.natAbs).drop (k + 1)).length ≤ B ^ 1 := Nat.pow_le_pow_right B_pos h2
        simp only [Nat.pow_one] at h3
        exact Nat.lt_of_lt_of_le h1 h3
      have hnx := drop_val hk
      rw [← hd, ← hx] at hnx
      obtain ⟨x2, hx2⟩ : ∃ x2, x2 = val ((mag a.natAbs).drop k) := ⟨_, rfl⟩
      rw [← hx2] at hnx
      have q2 : IntKind.u64.wrap (d : Int) = d := by rw [wrap_u64]; omega
      have q3 : IntKind.u64.wrap ((x : Int) * 4294967296) = (x : Int) * 4294967296 := by rw [wrap_u64]; omega
      have q4 : bOr .u64 ((x : Int) * 4294967296) d = x2 := by
        have := bOr64 (x * 4294967296) d (by omega) (by omega)
        rw [or_cut x d hdB] at this
        have h2 : x * 4294967296 + d = x2 := by rw [hnx]; simp only [B]; omega
        rw [h2] at this
        rw [← this]; congr 1
      have q5 : IntKind.i64.wrap ((k : Int) - 1) = (k : Int) - 1 := by rw [wrap_i64]; omega
      rw [← hx]
      simp [zIntS, eZ, eM, eW, hk, e1, dg, q2, q3, q4, q5]
      exact hN _ (nx (m := k) (s'' := zIntS a m x2 k) (snd_of (by simp [LeT, zIntS, eZ, eM, eW]) (by simp [zIntS, eZ, eM, eW])) ⟨by omega, by rw [hx2]⟩ (by omega))
theorem l1ZInt_ok : callable Tryz.prog 50 = true := by kernel_rfl
end Go.Proofs.YtdkgkcnllhcamaaGreat.Ae

/-! spec: fractions of any size: packed. No condition. -/
namespace Go.Proofs.YtdkgkcnllhcamaaGreat.Ae
open Go Go.RowKit Go.Proofs.YtdkgkcnllhcamaaGreat.Dig
variable {N : NR}

/-- A fraction as the reference holds it. -/
inductive SR where
  | small (n d : Int)
  | lit (n d : Int)
  | big (p q : Int)
def SR.num : SR → Int
  | small n _ => n
  | lit n _ => n
  | big p _ => p
def SR.den : SR → Int
  | small _ d => d
  | lit _ d => d
  | big _ q => q
def SR.isBig : SR → Bool
  | big _ _ => true
  | _ => false
def eR : SR → D
  | .small n d => .agg [i64D n, i64D d, .sl 2 []]
  | .lit n d => .agg [i64D n, i64D d, .lit (.slice none 0 0)]
  | .big p q => .agg [i64D 0, i64D 0, .sl 2 [eZ p, eZ q]]
theorem eR_inj : ∀ {a b : SR}, eR a = eR b → a = b
  | .small n d, .small n' d', h => by
    simp only [eR, D.agg.injEq, List.cons.injEq, and_true] at h
    rw [i64D_inj h.1, i64D_inj h.2]
  | .lit n d, .lit n' d', h => by
    simp only [eR, D.agg.injEq, List.cons.injEq, and_true] at h
    rw [i64D_inj h.1, i64D_inj h.2]
  | .big p q, .big p' q', h => by
    simp only [eR, D.agg.injEq, List.cons.injEq, and_true, true_and, D.sl.injEq] at h
    rw [eZ_inj h.1, eZ_inj h.2]
  | .small .., .lit .., h => by simp [eR] at h
  | .small .., .big .., h => by simp [eR] at h
  | .lit .., .small .., h => by simp [eR] at h
  | .lit .., .big .., h => by simp [eR] at h
  | .big .., .small .., h => by simp [eR] at h
  | .big .., .lit .., h => by simp [eR] at h
/-- Of moderate size; the second number above 0. -/
def WR : SR → Prop
  | .small n d => n.natAbs < 2147483648 ∧ 0 < d ∧ d < 2147483648
  | .lit n d => n.natAbs < 2147483648 ∧ 0 < d ∧ d < 2147483648
  | .big p q => SZ p ∧ SZ q ∧ 0 < q
def packR (p q : Int) : SR := if p.natAbs ≤ 2147483647 ∧ q.natAbs ≤ 2147483647 then .small p q else .big p q
theorem Sm_small {n : Nat} (h : n < 18446744073709551616) : Sm n := by
  have h1 : n < B ^ 2 := by simp only [B]; omega
  have := mag_lt.2 h1
  unfold Sm; omega

@[simp] theorem sub_r0 (n d : Int) : Sub (.agg [.lit (.int .i64 n), .lit (.int .i64 d), .lit (.slice none 0 0)]) (.agg [.lit (.int .i64 n), .lit (.int .i64 d), .sl 2 []]) = True := by
  simp only [eq_iff_iff, iff_true]; exact Sub.agg3 (Sub.refl _) (Sub.refl _) (Sub.nil 2)
@[simp] theorem eR_size (r : SR) : (eR r).size = 3 := by cases r <;> rfl
@[simp] theorem eR_isAgg (r : SR) : (eR r).isAgg = true := by cases r <;> rfl

/-! spec.l1rPack -/
noncomputable def packC := ctD zzE (fun p => SZ p.a ∧ SZ p.b) (fun p => [eR (packR p.a p.b)])
theorem packC_at (a b : Int) : packC [eZ a, eZ b] = ((SZ a ∧ SZ b), [eR (packR a b)]) := ctD_at zzE_inj ⟨a, b⟩
theorem l1rPack_spec : SpecD N Tryz.prog 42 packC := by
  refine rdD (mf := fun f => f == bld 33) (tbl_cons (f := 50) (c := .data zIntC) l1ZInt_spec l1ZInt_ok tbl_nil) (fn := Tryz.f42) (by kernel_rfl) rfl (by kernel_rfl) ?_
  rintro ⟨a, b⟩ ⟨ha, hb⟩
  have ha : SZ a := ha
  have hb : SZ b := hb
  refine ⟨by show 2 ≤ 30; decide, ?_⟩
  simp only [zzE, Tryz.f42]
  have c1 := zIntC_at a 2147483647
  have c2 := zIntC_at b 2147483647
  simp only [ha, hb, u64D, i64D] at c1 c2
  unfold packR
  by_cases h1 : a.natAbs ≤ 2147483647 <;> by_cases h2 : b.natAbs ≤ 2147483647 <;> simp [h1, h2] at c1 c2 <;> simp [c1, c2, h1, h2, eR, i64D]
theorem l1rPack_ok : callable Tryz.prog 42 = true := by kernel_rfl

/-! spec.l1rOf -/
def ofR (n d : Int) : SR := if (-2147483648 < n ∧ n < 2147483648) ∧ -2147483648 < d ∧ d < 2147483648 then .small n d else packR (n / (Int.gcd n d : Int)) (d / (Int.gcd n d : Int))
theorem eZ_div {n : Int} {g : Nat} (hg : 0 < g) (h : (g : Int) ∣ n) : eZ (n / (g : Int)) = .agg [.lit (.bool (decide (n < 0))), eM (n.natAbs / g)] := by
  obtain ⟨k, rfl⟩ := h
  have h1 : (g : Int) * k / (g : Int) = k := Int.mul_ediv_cancel_left k (by omega)
  have h2 : ((g : Int) * k).natAbs / g = k.natAbs := by rw [Int.natAbs_mul, Int.natAbs_natCast, Nat.mul_div_cancel_left _ hg]
  have h3 : ((g : Int) * k < 0) ↔ (k < 0) := by
    constructor
    · intro h
      rcases Int.lt_trichotomy k 0 with h4 | h4 | h4
      · exact h4
      · rw [h4, Int.mul_zero] at h; omega
      · have := Int.mul_pos (by omega : (0 : Int) < g) h4; omega
    · intro h; exact Int.mul_neg_of_pos_of_neg (by omega) h
  rw [h1, h2]
  unfold eZ
  simp only [h3]
def iiE (p : Z2) : List D := [i64D p.a, i64D p.b]
theorem iiE_inj (p q : Z2) (h : iiE p = iiE q) : p = q := by
  obtain ⟨a, b⟩ := p; obtain ⟨c, d⟩ := q
  simp only [iiE, List.cons.injEq, and_true] at h
  rw [i64D_inj h.1, i64D_inj h.2]
noncomputable def ofC := ctD iiE (fun p => I64 p.a ∧ I64 p.b ∧ 0 < p.b) (fun p => [eR (ofR p.a p.b)])
theorem ofC_at (a b : Int) : ofC [i64D a, i64D b] = ((I64 a ∧ I64 b ∧ 0 < b), [eR (ofR a b)]) := ctD_at iiE_inj ⟨a, b⟩
noncomputable def ofTb : List (FuncId × Ct) := [(73, .data smallC), (34, .data absC), (33, .data gcdC), (45, .data magC), (42, .data packC)]
theorem ofTb_ok : TbOK N Tryz.prog (tbl ofTb) := tbl_cons (c := .data smallC) l1Small_spec l1Small_ok (tbl_cons (c := .data absC) l1Abs_spec l1Abs_ok (tbl_cons (c := .data gcdC) l1Gcd_spec l1Gcd_ok (tbl_cons (c := .data magC) l1Mag_spec l1Mag_ok (tbl_cons (c := .data packC) l1rPack_spec l1rPack_ok tbl_nil))))

@[simp] theorem ofTb1 : tbl ofTb 73 = some (.data smallC) := rfl
@[simp] theorem ofTb2 : tbl ofTb 34 = some (.data absC) := rfl
@[simp] theorem ofTb3 : tbl ofTb 33 = some (.data gcdC) := rfl
@[simp] theorem ofTb4 : tbl ofTb 45 = some (.data magC) := rfl
@[simp] theorem ofTb5 : tbl ofTb 42 = some (.data packC) := rfl
theorem l1rOf_spec : SpecD N Tryz.prog 35 ofC := by
  refine rdD (mf := fun f => false) ofTb_ok (fn := Tryz.f35) (by kernel_rfl) rfl (by kernel_rfl) ?_
  rintro ⟨n, d⟩ ⟨hn, hd, hd0⟩
  have hn : I64 n := hn
  have hd : I64 d := hd
  have hd0 : 0 < d := hd0
  refine ⟨by show 2 ≤ 39; decide, ?_⟩
  simp only [iiE, i64D, Tryz.f35]
  have c1 := smallC_at n
  have c2 := smallC_at d
  simp only [hn, hd, i64D] at c1 c2
  by_cases hs : (-2147483648 < n ∧ n < 2147483648) ∧ -2147483648 < d ∧ d < 2147483648
  · have e : ofR n d = .small n d := by unfold ofR; rw [if_pos hs]
    have e1 : decide (-2147483648 < n ∧ n < 2147483648) = true := decide_eq_true hs.1
    have e2 : decide (-2147483648 < d ∧ d < 2147483648) = true := decide_eq_true hs.2
    rw [e]
    rw [e1] at c1
    rw [e2] at c2
    simp [c1, c2, eR, i64D]
  · have e : ofR n d = packR (n / (Int.gcd n d : Int)) (d / (Int.gcd n d : Int)) := by unfold ofR; rw [if_neg hs]
    rw [e]
    obtain ⟨g, hg⟩ : ∃ g, g = Int.gcd n d := ⟨_, rfl⟩
    have hg0 : 0 < g := by rw [hg]; exact Int.gcd_pos_of_ne_zero_right _ (by omega)
    have hg1 : (g : Int) ∣ n := by rw [hg]; exact Int.gcd_dvd_left ..
    have hg2 : (g : Int) ∣ d := by rw [hg]; exact Int.gcd_dvd_right ..
    have hgn : Nat.gcd n.natAbs d.natAbs = g := hg.symm
    rw [← hg]
    have c3 := absC_at n
    have c4 := gcdC_at n.natAbs d.natAbs
    rw [hgn] at c4
    have hn1 : n.natAbs < 18446744073709551616 := by unfold I64 at hn; omega
    have hd1 : d.natAbs < 18446744073709551616 := by unfold I64 at hd; omega
    simp only [hn, hn1, hd1, and_self, u64D, i64D] at c3 c4
    have c5 := packC_at (n / (g : Int)) (d / (g : Int))
    obtain ⟨p, hp⟩ : ∃ p, p = n.natAbs / g := ⟨_, rfl⟩
    obtain ⟨q, hq⟩ : ∃ q, q = d.natAbs / g := ⟨_, rfl⟩
    have hp1 : p < 18446744073709551616 := by rw [hp]; exact Nat.lt_of_le_of_lt (Nat.div_le_self _ _) hn1
    have hq1 : q < 18446744073709551616 := by rw [hq]; exact Nat.lt_of_le_of_lt (Nat.div_le_self _ _) hd1
    have c6 := magC_at p
    have c7 := magC_at q
    have hdn : ¬ d < 0 := by omega
    have hs1 : SZ (n / (g : Int)) := by
      have := congrArg (fun x => x) (eZ_div hg0 hg1)
      have h2 : (n / (g : Int)).natAbs = p := by
        simp only [eZ, D.agg.injEq, List.cons.injEq, and_true] at this
        rw [hp]; exact eM_inj this.2
      unfold SZ; rw [h2]; exact Sm_small hp1
    have hs2 : SZ (d / (g : Int)) := by
      have := congrArg (fun x => x) (eZ_div hg0 hg2)
      have h2 : (d / (g : Int)).natAbs = q := by
        simp only [eZ, D.agg.injEq, List.cons.injEq, and_true] at this
        rw [hq]; exact eM_inj this.2
      unfold SZ; rw [h2]; exact Sm_small hq1
    rw [eZ_div hg0 hg1, eZ_div hg0 hg2, ← hp, ← hq] at c5
    simp only [hp1, hq1, hs1, hs2, hdn, u64D, eM, eW, and_self, decide_false] at c5 c6 c7
    have w1 : IntKind.u64.wrap d = (d.natAbs : Int) := by rw [wrap_u64]; unfold I64 at hd; omega
    have w2 : Int.tdiv ((n.natAbs : Nat) : Int) g = p := by rw [hp]; exact tdiv_nat _ _
    have w3 : Int.tdiv ((d.natAbs : Nat) : Int) g = q := by rw [hq]; exact tdiv_nat _ _
    have w4 : IntKind.u64.wrap (p : Int) = p := by rw [wrap_u64]; omega
    have w5 : IntKind.u64.wrap (q : Int) = q := by rw [wrap_u64]; omega
    have hgne : ¬ g = 0 := by omega
    generalize packR (n / (g : Int)) (d / (g : Int)) = res at *
    generalize n.natAbs = na at *
    generalize d.natAbs = da at *
    by_cases h1 : -2147483648 < n ∧ n < 2147483648
    · have h2 : ¬ (-2147483648 < d ∧ d < 2147483648) := fun h => hs ⟨h1, h⟩
      have e1 : decide (-2147483648 < n ∧ n < 2147483648) = true := decide_eq_true h1
      have e2 : decide (-2147483648 < d ∧ d < 2147483648) = false := decide_eq_false h2
      rw [e1] at c1
      rw [e2] at c2
      simp [c1, c2, c3, c4, c5, c6, c7, w1, w2, w3, w4, w5, hgne]
    · have e1 : decide (-2147483648 < n ∧ n < 2147483648) = false := decide_eq_false h1
      rw [e1] at c1
      simp [c1, c3, c4, c5, c6, c7, w1, w2, w3, w4, w5, hgne]
theorem l1rOf_ok : callable Tryz.prog 35 = true := by kernel_rfl
end Go.Proofs.YtdkgkcnllhcamaaGreat.Ae

/-! spec: fractions of any size: sums, products. No condition. -/
namespace Go.Proofs.YtdkgkcnllhcamaaGreat.Ae
open Go Go.RowKit Go.Proofs.YtdkgkcnllhcamaaGreat.Dig
variable {N : NR}

structure R1 where
  a : SR
def rE (p : R1) : List D := [eR p.a]
theorem rE_inj (p q : R1) (h : rE p = rE q) : p = q := by
  obtain ⟨a⟩ := p; obtain ⟨c⟩ := q
  simp only [rE, List.cons.injEq, and_true] at h
  rw [eR_inj h]
structure R2 where
  a : SR
  b : SR
def rrE (p : R2) : List D := [eR p.a, eR p.b]
theorem rrE_inj (p q : R2) (h : rrE p = rrE q) : p = q := by
  obtain ⟨a, b⟩ := p; obtain ⟨c, d⟩ := q
  simp only [rrE, List.cons.injEq, and_true] at h
  rw [eR_inj h.1, eR_inj h.2]
theorem WR_SZ {r : SR} (h : WR r) : SZ r.num ∧ SZ r.den ∧ 0 < r.den := by
  cases r with
  | small n d => obtain ⟨h1, h2, h3⟩ := h; exact ⟨Sm_small (by show n.natAbs < _; omega), Sm_small (by show d.natAbs < _; omega), h2⟩
  | lit n d => obtain ⟨h1, h2, h3⟩ := h; exact ⟨Sm_small (by show n.natAbs < _; omega), Sm_small (by show d.natAbs < _; omega), h2⟩
  | big p q => exact h

/-! spec.l1rZ -/
noncomputable def rzC := ctD rE (fun p => WR p.a) (fun p => [eZ p.a.num, eZ p.a.den])
theorem rzC_at (a : SR) : rzC [eR a] = (WR a, [eZ a.num, eZ a.den]) := ctD_at rE_inj ⟨a⟩
/-! spec.l1rBig -/
def bigR (n d : Int) : SR := if n = 0 then .small 0 1 else if d < 0 then packR (-n / (Int.gcd n d : Int)) (-d / (Int.gcd n d : Int)) else packR (n / (Int.gcd n d : Int)) (d / (Int.gcd n d : Int))
noncomputable def bigC := ctD zzE (fun p => SZ p.a ∧ SZ p.b ∧ p.b ≠ 0) (fun p => [eR (bigR p.a p.b)])
theorem bigC_at (a b : Int) : bigC [eZ a, eZ b] = ((SZ a ∧ SZ b ∧ b ≠ 0), [eR (bigR a b)]) := ctD_at zzE_inj ⟨a, b⟩
noncomputable def bigTb : List (FuncId × Ct) := [(40, .data zNegC), (41, .data zGcdC), (37, .data divC), (42, .data packC)]
theorem bigTb_ok : TbOK N Tryz.prog (tbl bigTb) := tbl_cons (c := .data zNegC) l1ZNeg_spec l1ZNeg_ok (tbl_cons (c := .data zGcdC) l1ZGcd_spec l1ZGcd_ok (tbl_cons (c := .data divC) l1MagDiv_spec l1MagDiv_ok (tbl_cons (c := .data packC) l1rPack_spec l1rPack_ok tbl_nil)))

@[simp] theorem bigTb1 : tbl bigTb 40 = some (.data zNegC) := rfl
@[simp] theorem bigTb2 : tbl bigTb 41 = some (.data zGcdC) := rfl
@[simp] theorem bigTb3 : tbl bigTb 37 = some (.data divC) := rfl
@[simp] theorem bigTb4 : tbl bigTb 42 = some (.data packC) := rfl
theorem natAbs_div {n : Int} {g : Nat} (hg : 0 < g) (h : (g : Int) ∣ n) : (n / (g : Int)).natAbs = n.natAbs / g := by
  have := eZ_div hg h
  simp only [eZ, D.agg.injEq, List.cons.injEq, and_true] at this
  exact eM_inj this.2
theorem SZ_le {a b : Int} (h : a.natAbs ≤ b.natAbs) (hb : SZ b) : SZ a := Sm_le h hb
theorem l1rBig_spec : SpecD N Tryz.prog 13 bigC := by
  refine rdD (mf := fun f => false) bigTb_ok (fn := Tryz.f13) (by kernel_rfl) rfl (by kernel_rfl) ?_
  rintro ⟨n, d⟩ ⟨hn, hd, hd0⟩
  have hn : SZ n := hn
  have hd : SZ d := hd
  have hd0 : d ≠ 0 := hd0
  refine ⟨by show 2 ≤ 47; decide, ?_⟩
  simp only [zzE, Tryz.f13]
  by_cases hn0 : n = 0
  · have e : bigR n d = .small 0 1 := by unfold bigR; rw [if_pos hn0]
    rw [e]
    subst hn0
    simp [eZ, eM, eW, mag_zero, eR, i64D]
  · have hlen := mag_len_pos (n := n.natAbs) (by omega)
    have hne : mag n.natAbs ≠ [] := fun h => by rw [h] at hlen; simp at hlen
    -- the part behind the signs
    have key : ∀ n' d' : Int, SZ n' → SZ d' → n' ≠ 0 → 0 < d' → ∃ (g p q : Nat), 0 < g ∧ zGcdC [eZ n', eZ d'] = (True, [.agg [.lit (.bool false), .sl 1 ((mag g).map dg)]]) ∧ divC [.sl 1 ((mag n'.natAbs).map dg), .sl 1 ((mag g).map dg)] = (True, [.sl 1 ((mag p).map dg), eM (n'.natAbs % g)]) ∧
        divC [.sl 1 ((mag d'.natAbs).map dg), .sl 1 ((mag g).map dg)] = (True, [.sl 1 ((mag q).map dg), eM (d'.natAbs % g)]) ∧ packC [.agg [.lit (.bool (decide (n' < 0))), .sl 1 ((mag p).map dg)], .agg [.lit (.bool false), .sl 1 ((mag q).map dg)]] = (True, [eR (packR (n' / (Int.gcd n' d' : Int)) (d' / (Int.gcd n' d' : Int)))]) := by
      intro n' d' h1 h2 h3 h4
      obtain ⟨g, hg⟩ : ∃ g, g = Int.gcd n' d' := ⟨_, rfl⟩
      have hg0 : 0 < g := by rw [hg]; exact Int.gcd_pos_of_ne_zero_right _ (by omega)
      have hg1 : (g : Int) ∣ n' := by rw [hg]; exact Int.gcd_dvd_left ..
      have hg2 : (g : Int) ∣ d' := by rw [hg]; exact Int.gcd_dvd_right ..
      have hgd : g ≤ d'.natAbs := Nat.le_of_dvd (by omega) (by have := Int.natAbs_dvd_natAbs.2 hg2; simpa using this)
      have c1 := zGcdC_at n' d'
      have c2 := divC_at n'.natAbs g
      have c3 := divC_at d'.natAbs g
      have c4 := packC_at (n' / (g : Int)) (d' / (g : Int))
      have hsg : Sm g := Sm_le hgd h2
      have hs1 : SZ (n' / (g : Int)) := SZ_le (by rw [natAbs_div hg0 hg1]; exact Nat.div_le_self _ _) h1
      have hs2 : SZ (d' / (g : Int)) := SZ_le (by rw [natAbs_div hg0 hg2]; exact Nat.div_le_self _ _) h2
      rw [eZ_div hg0 hg1, eZ_div hg0 hg2] at c4
      have hdn : ¬ d' < 0 := by omega
      have hgn : ¬ ((g : Nat) : Int) < 0 := by omega
      rw [← hg] at c1
      have h1' : Sm n'.natAbs := h1
      have h2' : Sm d'.natAbs := h2
      refine ⟨g, n'.natAbs / g, d'.natAbs / g, hg0, ?_, ?_, ?_, ?_⟩
      · rw [c1]; simp only [h1, h2, and_self, eZ, hgn, decide_false, Int.natAbs_natCast, eM, eW]
      · simp only [eM, eW] at c2 ⊢; rw [c2]; simp only [h1', hsg, hg0, and_self]
      · simp only [eM, eW] at c3 ⊢; rw [c3]; simp only [h2', hsg, hg0, and_self]
      · rw [← hg]; simp only [eM, eW, hdn, decide_false] at c4; rw [c4]; simp only [hs1, hs2, and_self]
    by_cases hdn : d < 0
    · have e : bigR n d = packR (-n / (Int.gcd (-n) (-d) : Int)) (-d / (Int.gcd (-n) (-d) : Int)) := by unfold bigR; rw [if_neg hn0, if_pos hdn, Int.neg_gcd, Int.gcd_neg]
      rw [e]
      have c1 := zNegC_at n
      have c2 := zNegC_at d
      simp only [hn, hd] at c1 c2
      obtain ⟨g, p, q, hg0, k1, k2, k3, k4⟩ := key (-n) (-d) (SZ_neg.2 hn) (SZ_neg.2 hd) (by omega) (by omega)
      have c1' : zNegC [eZ n] = (True, [eZ (-n)]) := c1
      have hdn' : ¬ -d < 0 := by omega
      generalize packR _ _ = res at *
      have e3 : decide (-n < 0) = decide (0 < n) := by simp
      simp only [eZ, eM, eW, hdn', decide_false, hdn, decide_true, e3, Int.natAbs_neg] at c1 c2 k1 k2 k3 k4 ⊢
      simp [hne, c1, c2, k1, k2, k3, k4]
    · have e : bigR n d = packR (n / (Int.gcd n d : Int)) (d / (Int.gcd n d : Int)) := by unfold bigR; rw [if_neg hn0, if_neg hdn]
      rw [e]
      obtain ⟨g, p, q, hg0, k1, k2, k3, k4⟩ := key n d hn hd hn0 (by omega)
      generalize packR _ _ = res at *
      simp only [eZ, eM, eW, hdn, decide_false] at k1 ⊢
      simp [hne, k1, k2, k3, k4]
theorem l1rBig_ok : callable Tryz.prog 13 = true := by kernel_rfl
end Go.Proofs.YtdkgkcnllhcamaaGreat.Ae

/-! spec: fractions of any size: as two whole numbers. No condition. -/
namespace Go.Proofs.YtdkgkcnllhcamaaGreat.Ae
open Go Go.RowKit Go.Proofs.YtdkgkcnllhcamaaGreat.Dig
variable {N : NR}

theorem l1rZ_spec : SpecD N Tryz.prog 36 rzC := by
  refine rdD (mf := fun f => f == cel 2 || f == cel 3) (tbl_cons (f := 15) (c := .data zOfC) l1ZOf_spec l1ZOf_ok tbl_nil) (fn := Tryz.f36) (by kernel_rfl) rfl (by kernel_rfl) ?_
  rintro ⟨a⟩ ha
  have ha : WR a := ha
  refine ⟨by show 1 ≤ 22; decide, ?_⟩
  simp only [rE, Tryz.f36]
  cases a with
  | small n d =>
    obtain ⟨h1, h2, h3⟩ := ha
    have c1 := zOfC_at n
    have c2 := zOfC_at d
    have i1 : I64 n := by unfold I64; omega
    have i2 : I64 d := by unfold I64; omega
    simp only [i1, i2, i64D] at c1 c2
    simp [eR, i64D, SR.num, SR.den, c1, c2]
  | lit n d =>
    obtain ⟨h1, h2, h3⟩ := ha
    have c1 := zOfC_at n
    have c2 := zOfC_at d
    have i1 : I64 n := by unfold I64; omega
    have i2 : I64 d := by unfold I64; omega
    simp only [i1, i2, i64D] at c1 c2
    simp [eR, i64D, SR.num, SR.den, c1, c2]
  | big p q =>
    have e0 : ix [eZ p, eZ q] 0 = some (eZ p) := rfl
    have e1 : ix [eZ p, eZ q] 1 = some (eZ q) := rfl
    simp [eR, i64D, SR.num, SR.den, e0, e1]
theorem l1rZ_ok : callable Tryz.prog 36 = true := by kernel_rfl

end Go.Proofs.YtdkgkcnllhcamaaGreat.Ae

/-! spec: fractions of any size: sums, products. No condition. -/
namespace Go.Proofs.YtdkgkcnllhcamaaGreat.Ae
open Go Go.RowKit Go.Proofs.YtdkgkcnllhcamaaGreat.Dig
variable {N : NR}

theorem prod_bd {n d : Int} (hn : n.natAbs < 2147483648) (hd : 0 < d ∧ d < 2147483648) : -4611686018427387904 < n * d ∧ n * d < 4611686018427387904 := by
  have h1 : (n * d).natAbs ≤ 2147483647 * 2147483647 := by rw [Int.natAbs_mul]; exact Nat.mul_le_mul (by omega) (by omega)
  omega
theorem pos_bd {c d : Int} (hc : 0 < c ∧ c < 2147483648) (hd : 0 < d ∧ d < 2147483648) : 0 < c * d ∧ c * d < 4611686018427387904 :=
  ⟨Int.mul_pos hc.1 hd.1, (prod_bd (n := c) (by omega) hd).2⟩
theorem w_0 : IntKind.i64.wrap 0 = 0 := by rw [wrap_i64]; rfl
theorem w_2 : IntKind.i64.wrap 2 = 2 := by rw [wrap_i64]; rfl
theorem w_4 : IntKind.i64.wrap 4 = 4 := by rw [wrap_i64]; rfl

theorem eR_small (n d : Int) : eR (.small n d) = .agg [i64D n, i64D d, .sl 2 []] := rfl
theorem eR_lit (n d : Int) : eR (.lit n d) = .agg [i64D n, i64D d, .lit (.slice none 0 0)] := rfl
theorem eR_big (p q : Int) : eR (.big p q) = .agg [i64D 0, i64D 0, .sl 2 [eZ p, eZ q]] := rfl
def addR (a b : SR) : SR := if a.isBig || b.isBig then bigR (a.num * b.den + b.num * a.den) (a.den * b.den) else ofR (a.num * b.den + b.num * a.den) (a.den * b.den)
noncomputable def rAddC := ctD rrE (fun p => WR p.a ∧ WR p.b ∧ SZ (p.a.num * p.b.den) ∧ SZ (p.b.num * p.a.den) ∧ SZ (p.a.num * p.b.den + p.b.num * p.a.den) ∧ SZ (p.a.den * p.b.den)) (fun p => [eR (addR p.a p.b)])
theorem rAddC_at (a b : SR) : rAddC [eR a, eR b] = ((WR a ∧ WR b ∧ SZ (a.num * b.den) ∧ SZ (b.num * a.den) ∧ SZ (a.num * b.den + b.num * a.den) ∧ SZ (a.den * b.den)), [eR (addR a b)]) := ctD_at rrE_inj ⟨a, b⟩
noncomputable def rTb : List (FuncId × Ct) := [(35, .data ofC), (36, .data rzC), (39, .data zMulC), (14, .data zAddC), (13, .data bigC), (49, .data zCmpC), (78, .data zSignC), (40, .data zNegC), (15, .data zOfC), (42, .data packC)]
theorem rTb_ok : TbOK N Tryz.prog (tbl rTb) := tbl_cons (c := .data ofC) l1rOf_spec l1rOf_ok (tbl_cons (c := .data rzC) l1rZ_spec l1rZ_ok (tbl_cons (c := .data zMulC) l1ZMul_spec l1ZMul_ok (tbl_cons (c := .data zAddC) l1ZAdd_spec l1ZAdd_ok (tbl_cons (c := .data bigC) l1rBig_spec l1rBig_ok (tbl_cons (c := .data zCmpC) l1ZCmp_spec l1ZCmp_ok (tbl_cons (c := .data zSignC) l1ZSign_spec l1ZSign_ok (tbl_cons (c := .data zNegC) l1ZNeg_spec l1ZNeg_ok (tbl_cons (c := .data zOfC) l1ZOf_spec l1ZOf_ok (tbl_cons (c := .data packC) l1rPack_spec l1rPack_ok tbl_nil)))))))))

@[simp] theorem rTb1 : tbl rTb 35 = some (.data ofC) := rfl
@[simp] theorem rTb2 : tbl rTb 36 = some (.data rzC) := rfl
@[simp] theorem rTb3 : tbl rTb 39 = some (.data zMulC) := rfl
@[simp] theorem rTb4 : tbl rTb 14 = some (.data zAddC) := rfl
@[simp] theorem rTb5 : tbl rTb 13 = some (.data bigC) := rfl
@[simp] theorem rTb6 : tbl rTb 49 = some (.data zCmpC) := rfl
@[simp] theorem rTb7 : tbl rTb 78 = some (.data zSignC) := rfl
@[simp] theorem rTb8 : tbl rTb 40 = some (.data zNegC) := rfl
@[simp] theorem rTb9 : tbl rTb 15 = some (.data zOfC) := rfl
@[simp] theorem rTb10 : tbl rTb 42 = some (.data packC) := rfl

theorem l1rAdd_spec : SpecD N Tryz.prog 48 rAddC := by
  refine rdD (mf := fun f => false) rTb_ok (fn := Tryz.f48) (by kernel_rfl) rfl (by kernel_rfl) ?_
  rintro ⟨a, b⟩ ⟨ha, hb, h1, h2, h3, h4⟩
  have ha : WR a := ha
  have hb : WR b := hb
  have h1 : SZ (a.num * b.den) := h1
  have h2 : SZ (b.num * a.den) := h2
  have h3 : SZ (a.num * b.den + b.num * a.den) := h3
  have h4 : SZ (a.den * b.den) := h4
  obtain ⟨sa1, sa2, sa3⟩ := WR_SZ ha
  obtain ⟨sb1, sb2, sb3⟩ := WR_SZ hb
  refine ⟨by show 2 ≤ 55; decide, ?_⟩
  simp only [rrE, Tryz.f48]
  have c1 := rzC_at a
  have c2 := rzC_at b
  have c3 := zMulC_at a.num b.den
  have c4 := zMulC_at b.num a.den
  have c5 := zAddC_at (a.num * b.den) (b.num * a.den)
  have c6 := zMulC_at a.den b.den
  have c7 := bigC_at (a.num * b.den + b.num * a.den) (a.den * b.den)
  have h5 : a.den * b.den ≠ 0 := by have := Int.mul_pos sa3 sb3; omega
  have c8 := ofC_at (a.num * b.den + b.num * a.den) (a.den * b.den)
  simp only [ha, hb, h1, h2, h3, h4, sa1, sa2, sb1, sb2, and_self, h5, ne_eq, not_false_eq_true] at c1 c2 c3 c4 c5 c6 c7
  rcases a with ⟨n, d⟩ | ⟨n, d⟩ | ⟨n, d⟩ <;> rcases b with ⟨n', d'⟩ | ⟨n', d'⟩ | ⟨n', d'⟩
  case small.small | small.lit | lit.small | lit.lit =>
    obtain ⟨x1, x2, x3⟩ := ha
    obtain ⟨y1, y2, y3⟩ := hb
    have b1 := prod_bd x1 ⟨y2, y3⟩
    have b2 := prod_bd y1 ⟨x2, x3⟩
    have b3 := pos_bd ⟨x2, x3⟩ ⟨y2, y3⟩
    simp only [SR.num, SR.den, SR.isBig, addR, eR_small, eR_lit, eR_big, i64D, Bool.or_self, Bool.false_eq_true, if_false] at c8 ⊢
    have i1 : I64 (n * d' + n' * d) := by unfold I64; omega
    have i2 : I64 (d * d') := by unfold I64; omega
    have i3 : 0 < d * d' := b3.1
    simp only [i1, i2, i3, and_self] at c8
    have w1 : IntKind.i64.wrap (n * d') = n * d' := i64_id _ (by omega) (by omega)
    have w2 : IntKind.i64.wrap (n' * d) = n' * d := i64_id _ (by omega) (by omega)
    have w3 : IntKind.i64.wrap (d * d') = d * d' := i64_id _ (by omega) (by omega)
    have w4 : IntKind.i64.wrap (n * d' + n' * d) = n * d' + n' * d := i64_id _ (by omega) (by omega)
    simp [w_0, w1, w2, w3, w4, c8]
  all_goals
    simp only [SR.num, SR.den, SR.isBig, addR, eR_small, eR_lit, eR_big, i64D, Bool.or_true, Bool.true_or, Bool.or_self, if_true] at c1 c2 c3 c4 c5 c6 c7 ⊢
    simp [w_2, w_4, c1, c2, c3, c4, c5, c6, c7]
theorem l1rAdd_ok : callable Tryz.prog 48 = true := by kernel_rfl
end Go.Proofs.YtdkgkcnllhcamaaGreat.Ae

/-! spec: fractions of any size: products, quotients, signs. No condition. -/
namespace Go.Proofs.YtdkgkcnllhcamaaGreat.Ae
open Go Go.RowKit Go.Proofs.YtdkgkcnllhcamaaGreat.Dig
variable {N : NR}

def mulR (a b : SR) : SR := if a.isBig || b.isBig then bigR (a.num * b.num) (a.den * b.den) else ofR (a.num * b.num) (a.den * b.den)
noncomputable def rMulC := ctD rrE (fun p => WR p.a ∧ WR p.b ∧ SZ (p.a.num * p.b.num) ∧ SZ (p.a.den * p.b.den)) (fun p => [eR (mulR p.a p.b)])
theorem rMulC_at (a b : SR) : rMulC [eR a, eR b] = ((WR a ∧ WR b ∧ SZ (a.num * b.num) ∧ SZ (a.den * b.den)), [eR (mulR a b)]) := ctD_at rrE_inj ⟨a, b⟩
theorem l1rMul_spec : SpecD N Tryz.prog 11 rMulC := by
  refine rdD (mf := fun f => false) rTb_ok (fn := Tryz.f11) (by kernel_rfl) rfl (by kernel_rfl) ?_
  rintro ⟨a, b⟩ ⟨ha, hb, h1, h4⟩
  have ha : WR a := ha
  have hb : WR b := hb
  have h1 : SZ (a.num * b.num) := h1
  have h4 : SZ (a.den * b.den) := h4
  obtain ⟨sa1, sa2, sa3⟩ := WR_SZ ha
  obtain ⟨sb1, sb2, sb3⟩ := WR_SZ hb
  refine ⟨by show 2 ≤ 45; decide, ?_⟩
  simp only [rrE, Tryz.f11]
  have c1 := rzC_at a
  have c2 := rzC_at b
  have c3 := zMulC_at a.num b.num
  have c6 := zMulC_at a.den b.den
  have c7 := bigC_at (a.num * b.num) (a.den * b.den)
  have h5 : a.den * b.den ≠ 0 := by have := Int.mul_pos sa3 sb3; omega
  have c8 := ofC_at (a.num * b.num) (a.den * b.den)
  simp only [ha, hb, h1, h4, sa1, sa2, sb1, sb2, and_self, h5, ne_eq, not_false_eq_true] at c1 c2 c3 c6 c7
  rcases a with ⟨n, d⟩ | ⟨n, d⟩ | ⟨n, d⟩ <;> rcases b with ⟨n', d'⟩ | ⟨n', d'⟩ | ⟨n', d'⟩
  case small.small | small.lit | lit.small | lit.lit =>
    obtain ⟨x1, x2, x3⟩ := ha
    obtain ⟨y1, y2, y3⟩ := hb
    have b1 : -4611686018427387904 < n * n' ∧ n * n' < 4611686018427387904 := by
      have h1 : (n * n').natAbs ≤ 2147483647 * 2147483647 := by rw [Int.natAbs_mul]; exact Nat.mul_le_mul (by omega) (by omega)
      omega
    have b3 := pos_bd ⟨x2, x3⟩ ⟨y2, y3⟩
    simp only [SR.num, SR.den, SR.isBig, mulR, eR_small, eR_lit, eR_big, i64D, Bool.or_self, Bool.false_eq_true, if_false] at c8 ⊢
    have i1 : I64 (n * n') := by unfold I64; omega
    have i2 : I64 (d * d') := by unfold I64; omega
    have i3 : 0 < d * d' := b3.1
    simp only [i1, i2, i3, and_self] at c8
    have w1 : IntKind.i64.wrap (n * n') = n * n' := i64_id _ (by omega) (by omega)
    have w3 : IntKind.i64.wrap (d * d') = d * d' := i64_id _ (by omega) (by omega)
    simp [w_0, w1, w3, c8]
  all_goals
    simp only [SR.num, SR.den, SR.isBig, mulR, eR_small, eR_lit, eR_big, i64D, Bool.or_true, Bool.true_or, Bool.or_self, if_true] at c1 c2 c3 c6 c7 ⊢
    simp [w_2, w_4, c1, c2, c3, c6, c7]
theorem l1rMul_ok : callable Tryz.prog 11 = true := by kernel_rfl

/-! spec.l1rNeg, l1rSub -/
def negR : SR → SR
  | .small n d => .small (-n) d
  | .lit n d => .small (-n) d
  | .big p q => .big (-p) q
noncomputable def rNegC := ctD rE (fun p => WR p.a) (fun p => [eR (negR p.a)])
theorem rNegC_at (a : SR) : rNegC [eR a] = (WR a, [eR (negR a)]) := ctD_at rE_inj ⟨a⟩
theorem l1rNeg_spec : SpecD N Tryz.prog 47 rNegC := by
  refine rdD (mf := fun f => f == bld 33) rTb_ok (fn := Tryz.f47) (by kernel_rfl) rfl (by kernel_rfl) ?_
  rintro ⟨a⟩ ha
  have ha : WR a := ha
  refine ⟨by show 1 ≤ 24; decide, ?_⟩
  simp only [rE, Tryz.f47]
  rcases a with ⟨n, d⟩ | ⟨n, d⟩ | ⟨n, d⟩
  case small | lit =>
    obtain ⟨x1, x2, x3⟩ := ha
    have w1 : IntKind.i64.wrap (-n) = -n := i64_id _ (by omega) (by omega)
    simp [negR, eR_small, eR_lit, i64D, w1]
  case big =>
    obtain ⟨x1, x2, x3⟩ := ha
    have c1 := zNegC_at n
    simp only [x1] at c1
    have e0 : ix [eZ n, eZ d] 0 = some (eZ n) := rfl
    have e1 : ix [eZ n, eZ d] 1 = some (eZ d) := rfl
    simp [negR, eR_big, i64D, c1, e0, e1]
theorem l1rNeg_ok : callable Tryz.prog 47 = true := by kernel_rfl
theorem negR_num (a : SR) : (negR a).num = -a.num := by cases a <;> rfl
theorem negR_den (a : SR) : (negR a).den = a.den := by cases a <;> rfl
theorem negR_WR {a : SR} (h : WR a) : WR (negR a) := by
  cases a with
  | small n d => obtain ⟨x1, x2, x3⟩ := h; exact ⟨by rw [Int.natAbs_neg]; exact x1, x2, x3⟩
  | lit n d => obtain ⟨x1, x2, x3⟩ := h; exact ⟨by rw [Int.natAbs_neg]; exact x1, x2, x3⟩
  | big p q => obtain ⟨x1, x2, x3⟩ := h; exact ⟨SZ_neg.2 x1, x2, x3⟩
def subR (a b : SR) : SR := addR a (negR b)
noncomputable def rSubC := ctD rrE (fun p => WR p.a ∧ WR p.b ∧ SZ (p.a.num * p.b.den) ∧ SZ (p.b.num * p.a.den) ∧ SZ (p.a.num * p.b.den - p.b.num * p.a.den) ∧ SZ (p.a.den * p.b.den)) (fun p => [eR (subR p.a p.b)])
theorem rSubC_at (a b : SR) : rSubC [eR a, eR b] = ((WR a ∧ WR b ∧ SZ (a.num * b.den) ∧ SZ (b.num * a.den) ∧ SZ (a.num * b.den - b.num * a.den) ∧ SZ (a.den * b.den)), [eR (subR a b)]) := ctD_at rrE_inj ⟨a, b⟩
theorem l1rSub_spec : SpecD N Tryz.prog 17 rSubC := by
  refine rdD (mf := fun f => false) (tbl_cons (f := 47) (c := .data rNegC) l1rNeg_spec l1rNeg_ok (tbl_cons (f := 48) (c := .data rAddC) l1rAdd_spec l1rAdd_ok tbl_nil)) (fn := Tryz.f17) (by kernel_rfl) rfl (by kernel_rfl) ?_
  rintro ⟨a, b⟩ ⟨ha, hb, h1, h2, h3, h4⟩
  have ha : WR a := ha
  have hb : WR b := hb
  have h1 : SZ (a.num * b.den) := h1
  have h2 : SZ (b.num * a.den) := h2
  have h3 : SZ (a.num * b.den - b.num * a.den) := h3
  have h4 : SZ (a.den * b.den) := h4
  refine ⟨by show 2 ≤ 9; decide, ?_⟩
  simp only [rrE, Tryz.f17]
  have c1 := rNegC_at b
  have c2 := rAddC_at a (negR b)
  have hb' := negR_WR hb
  rw [negR_num, negR_den, Int.neg_mul, ← Int.sub_eq_add_neg] at c2
  have h2' := SZ_neg.2 h2
  simp only [ha, hb, hb', h1, h2', h3, h4, and_self] at c1 c2
  have t1 : tbl [(47, Ct.data rNegC), (48, .data rAddC)] 47 = some (.data rNegC) := rfl
  have t2 : tbl [(47, Ct.data rNegC), (48, .data rAddC)] 48 = some (.data rAddC) := rfl
  simp [subR, c1, c2, t1, t2]
theorem l1rSub_ok : callable Tryz.prog 17 = true := by kernel_rfl

/-! spec.l1rSign -/
noncomputable def rSignC := ctD rE (fun p => WR p.a) (fun p => [i64D p.a.num.sign])
theorem rSignC_at (a : SR) : rSignC [eR a] = (WR a, [i64D a.num.sign]) := ctD_at rE_inj ⟨a⟩
theorem l1rSign_spec : SpecD N Tryz.prog 46 rSignC := by
  refine rdD (mf := fun f => false) rTb_ok (fn := Tryz.f46) (by kernel_rfl) rfl (by kernel_rfl) ?_
  rintro ⟨a⟩ ha
  have ha : WR a := ha
  refine ⟨by show 1 ≤ 18; decide, ?_⟩
  simp only [rE, Tryz.f46]
  rcases a with ⟨n, d⟩ | ⟨n, d⟩ | ⟨n, d⟩
  case small | lit =>
    simp only [SR.num, eR_small, eR_lit, i64D]
    rcases Int.lt_trichotomy n 0 with h | h | h
    · rw [Int.sign_eq_neg_one_of_neg h]
      simp [h]
    · subst h
      simp
    · have h1 : ¬ n < 0 := by omega
      rw [Int.sign_eq_one_of_pos h]
      simp [h, h1]
  case big =>
    obtain ⟨x1, x2, x3⟩ := ha
    have c1 := zSignC_at n
    simp only [x1, i64D] at c1
    have e0 : ix [eZ n, eZ d] 0 = some (eZ n) := rfl
    simp [SR.num, eR_big, i64D, c1, e0]
theorem l1rSign_ok : callable Tryz.prog 46 = true := by kernel_rfl
end Go.Proofs.YtdkgkcnllhcamaaGreat.Ae

/-! spec: fractions of any size: quotients, comparisons, floors, and fractions of two words. No condition. -/
namespace Go.Proofs.YtdkgkcnllhcamaaGreat.Ae
open Go Go.RowKit Go.Proofs.YtdkgkcnllhcamaaGreat.Dig
variable {N : NR}

theorem num_small (n d : Int) : (SR.small n d).num = n := rfl
theorem num_lit (n d : Int) : (SR.lit n d).num = n := rfl
theorem num_big (n d : Int) : (SR.big n d).num = n := rfl
theorem den_small (n d : Int) : (SR.small n d).den = d := rfl
theorem den_lit (n d : Int) : (SR.lit n d).den = d := rfl
theorem den_big (n d : Int) : (SR.big n d).den = d := rfl
/-! spec.l1rDiv -/
def invR (n d : Int) : SR := if n < 0 then .lit (-d) (-n) else .lit d n
def divR (a : SR) : SR → SR
  | .small n d => mulR a (invR n d)
  | .lit n d => mulR a (invR n d)
  | .big p q => bigR (a.num * q) (a.den * p)
noncomputable def rDivC := ctD rrE (fun p => WR p.a ∧ WR p.b ∧ p.b.num ≠ 0 ∧ SZ (p.a.num * p.b.den) ∧ SZ (p.a.den * p.b.num)) (fun p => [eR (divR p.a p.b)])
theorem rDivC_at (a b : SR) : rDivC [eR a, eR b] = ((WR a ∧ WR b ∧ b.num ≠ 0 ∧ SZ (a.num * b.den) ∧ SZ (a.den * b.num)), [eR (divR a b)]) := ctD_at rrE_inj ⟨a, b⟩
noncomputable def divRTb : List (FuncId × Ct) := [(11, .data rMulC), (36, .data rzC), (39, .data zMulC), (13, .data bigC)]
theorem divRTb_ok : TbOK N Tryz.prog (tbl divRTb) := tbl_cons (c := .data rMulC) l1rMul_spec l1rMul_ok (tbl_cons (c := .data rzC) l1rZ_spec l1rZ_ok (tbl_cons (c := .data zMulC) l1ZMul_spec l1ZMul_ok (tbl_cons (c := .data bigC) l1rBig_spec l1rBig_ok tbl_nil)))

@[simp] theorem divRTb1 : tbl divRTb 11 = some (.data rMulC) := rfl
@[simp] theorem divRTb2 : tbl divRTb 36 = some (.data rzC) := rfl
@[simp] theorem divRTb3 : tbl divRTb 39 = some (.data zMulC) := rfl
@[simp] theorem divRTb4 : tbl divRTb 13 = some (.data bigC) := rfl
/-! spec.l1rCmp -/
noncomputable def rCmpC := ctD rrE (fun p => WR p.a ∧ WR p.b ∧ SZ (p.a.num * p.b.den) ∧ SZ (p.b.num * p.a.den) ∧ SZ (p.a.num * p.b.den - p.b.num * p.a.den)) (fun p => [i64D (p.a.num * p.b.den - p.b.num * p.a.den).sign])
theorem rCmpC_at (a b : SR) : rCmpC [eR a, eR b] = ((WR a ∧ WR b ∧ SZ (a.num * b.den) ∧ SZ (b.num * a.den) ∧ SZ (a.num * b.den - b.num * a.den)), [i64D (a.num * b.den - b.num * a.den).sign]) := ctD_at rrE_inj ⟨a, b⟩
theorem l1rCmp_spec : SpecD N Tryz.prog 18 rCmpC := by
  refine rdD (mf := fun f => false) rTb_ok (fn := Tryz.f18) (by kernel_rfl) rfl (by kernel_rfl) ?_
  rintro ⟨a, b⟩ ⟨ha, hb, h1, h2, h3⟩
  have ha : WR a := ha
  have hb : WR b := hb
  have h1 : SZ (a.num * b.den) := h1
  have h2 : SZ (b.num * a.den) := h2
  have h3 : SZ (a.num * b.den - b.num * a.den) := h3
  obtain ⟨sa1, sa2, sa3⟩ := WR_SZ ha
  obtain ⟨sb1, sb2, sb3⟩ := WR_SZ hb
  refine ⟨by show 2 ≤ 52; decide, ?_⟩
  simp only [rrE, Tryz.f18]
  have c1 := rzC_at a
  have c2 := rzC_at b
  have c3 := zMulC_at a.num b.den
  have c4 := zMulC_at b.num a.den
  have c5 := zCmpC_at (a.num * b.den) (b.num * a.den)
  simp only [ha, hb, h1, h2, h3, sa1, sa2, sb1, sb2, and_self] at c1 c2 c3 c4 c5
  rcases a with ⟨n, d⟩ | ⟨n, d⟩ | ⟨n, d⟩ <;> rcases b with ⟨n', d'⟩ | ⟨n', d'⟩ | ⟨n', d'⟩
  case small.small | small.lit | lit.small | lit.lit =>
    obtain ⟨x1, x2, x3⟩ := ha
    obtain ⟨y1, y2, y3⟩ := hb
    have b1 := prod_bd x1 ⟨y2, y3⟩
    have b2 := prod_bd y1 ⟨x2, x3⟩
    simp only [SR.num, SR.den, eR_small, eR_lit, eR_big, i64D]
    have w1 : IntKind.i64.wrap (n * d') = n * d' := i64_id _ (by omega) (by omega)
    have w2 : IntKind.i64.wrap (n' * d) = n' * d := i64_id _ (by omega) (by omega)
    rcases Int.lt_trichotomy (n * d') (n' * d) with h | h | h
    · have e : (n * d' - n' * d).sign = -1 := Int.sign_eq_neg_one_of_neg (by omega)
      rw [e]
      simp [w_0, w1, w2, h]
    · have e : (n * d' - n' * d).sign = 0 := by rw [h, Int.sub_self]; rfl
      rw [e]
      simp [w_0, w1, w2, h]
    · have e : (n * d' - n' * d).sign = 1 := Int.sign_eq_one_of_pos (by omega)
      have h' : ¬ n * d' < n' * d := by omega
      rw [e]
      simp [w_0, w1, w2, h, h']
  all_goals
    simp only [SR.num, SR.den, eR_small, eR_lit, eR_big, i64D] at c1 c2 c3 c4 c5 ⊢
    simp [w_2, w_4, c1, c2, c3, c4, c5]
theorem l1rCmp_ok : callable Tryz.prog 18 = true := by kernel_rfl

/-! spec.l1rWhole, l1q -/
noncomputable def rWholeC := ctD zE (fun p => SZ p.a) (fun p => [eR (packR p.a 1)])
theorem rWholeC_at (a : Int) : rWholeC [eZ a] = (SZ a, [eR (packR a 1)]) := ctD_at zE_inj ⟨a⟩
/-- A fraction of two words. -/
def eQ (n d : Int) : D := .agg [i64D n, i64D d]
def qE (p : Z2) : List D := [eQ p.a p.b]
theorem qE_inj (p q : Z2) (h : qE p = qE q) : p = q := by
  obtain ⟨a, b⟩ := p; obtain ⟨c, d⟩ := q
  simp only [qE, eQ, List.cons.injEq, and_true, D.agg.injEq] at h
  rw [i64D_inj h.1, i64D_inj h.2]
noncomputable def l1qC := ctD qE (fun p => I64 p.a ∧ I64 p.b ∧ 0 < p.b) (fun p => [eR (ofR p.a p.b)])
theorem l1qC_at (a b : Int) : l1qC [eQ a b] = ((I64 a ∧ I64 b ∧ 0 < b), [eR (ofR a b)]) := ctD_at qE_inj ⟨a, b⟩
theorem l1q_spec : SpecD N Tryz.prog 9 l1qC := by
  refine rdD (mf := fun f => false) rTb_ok (fn := Tryz.f9) (by kernel_rfl) rfl (by kernel_rfl) ?_
  rintro ⟨a, b⟩ ⟨ha, hb, h0⟩
  have ha : I64 a := ha
  have hb : I64 b := hb
  have h0 : 0 < b := h0
  refine ⟨by show 1 ≤ 8; decide, ?_⟩
  simp only [qE, eQ, Tryz.f9]
  have c1 := ofC_at a b
  simp only [ha, hb, h0, i64D, and_self] at c1
  simp [i64D, c1]
theorem l1q_ok : callable Tryz.prog 9 = true := by kernel_rfl
end Go.Proofs.YtdkgkcnllhcamaaGreat.Ae

/-! spec: fractions of any size: floors, and back to fractions of two words. No condition. -/
namespace Go.Proofs.YtdkgkcnllhcamaaGreat.Ae
open Go Go.RowKit Go.Proofs.YtdkgkcnllhcamaaGreat.Dig
variable {N : NR}

/-! spec.l1rFloor -/
noncomputable def rFloorC := ctD rE (fun p => WR p.a) (fun p => [eZ (p.a.num / p.a.den)])
theorem rFloorC_at (a : SR) : rFloorC [eR a] = (WR a, [eZ (a.num / a.den)]) := ctD_at rE_inj ⟨a⟩
noncomputable def flTb : List (FuncId × Ct) := [(38, .data addC), (36, .data rzC), (37, .data divC)]
theorem flTb_ok : TbOK N Tryz.prog (tbl flTb) := tbl_cons (c := .data addC) l1MagAdd_spec l1MagAdd_ok (tbl_cons (c := .data rzC) l1rZ_spec l1rZ_ok (tbl_cons (c := .data divC) l1MagDiv_spec l1MagDiv_ok tbl_nil))

@[simp] theorem flTb1 : tbl flTb 38 = some (.data addC) := rfl
@[simp] theorem flTb2 : tbl flTb 36 = some (.data rzC) := rfl
@[simp] theorem flTb3 : tbl flTb 37 = some (.data divC) := rfl
/-- A whole quotient below a negative one. -/
theorem floor_neg {n d : Int} (hn : n < 0) (hd : 0 < d) : n / d = -((n.natAbs / d.natAbs + (if n.natAbs % d.natAbs = 0 then 0 else 1) : Nat) : Int) := by
  obtain ⟨m, rfl⟩ : ∃ m : Nat, n = -(m : Int) := ⟨n.natAbs, by omega⟩
  obtain ⟨e, rfl⟩ : ∃ e : Nat, d = (e : Int) := ⟨d.natAbs, by omega⟩
  have he : 0 < e := by omega
  rw [Int.natAbs_neg, Int.natAbs_natCast, Int.natAbs_natCast]
  have h1 := Nat.div_add_mod m e
  have h2 := Nat.mod_lt m he
  obtain ⟨q, hq⟩ : ∃ q, q = m / e := ⟨_, rfl⟩
  obtain ⟨r, hr⟩ : ∃ r, r = m % e := ⟨_, rfl⟩
  rw [← hq, ← hr] at h1
  rw [← hr] at h2
  rw [← hq, ← hr]
  by_cases h0 : r = 0
  · rw [if_pos h0, Nat.add_zero]
    have : -(m : Int) = (e : Int) * -(q : Int) := by rw [Int.mul_neg]; have : (m : Int) = (e : Int) * q := by rw [← Int.natCast_mul]; omega
                                                     omega
    rw [this, Int.mul_ediv_cancel_left _ (by omega)]
  · rw [if_neg h0]
    have h3 : (m : Int) = (e : Int) * q + r := by rw [← Int.natCast_mul]; omega
    have h4 : -(m : Int) = ((e : Int) - r) + (e : Int) * (-((q : Int) + 1)) := by rw [Int.mul_neg, Int.mul_add, Int.mul_one]; omega
    rw [h4, Int.add_mul_ediv_left _ _ (by omega : (e : Int) ≠ 0), Int.ediv_eq_zero_of_lt (by omega) (by omega)]
    omega
theorem l1rFloor_spec : SpecD N Tryz.prog 10 rFloorC := by
  refine rdD (mf := fun f => f == 38) flTb_ok (fn := Tryz.f10) (by kernel_rfl) rfl (by kernel_rfl) ?_
  rintro ⟨a⟩ ha
  have ha : WR a := ha
  obtain ⟨sa1, sa2, sa3⟩ := WR_SZ ha
  refine ⟨by show 1 ≤ 39; decide, ?_⟩
  simp only [rE, Tryz.f10]
  have c1 := rzC_at a
  simp only [ha] at c1
  have hes : (eR a).size = 3 := eR_size a
  have hea : (eR a).isAgg = true := eR_isAgg a
  generalize eR a = ea at *
  generalize a.num = n at *
  generalize a.den = d at *
  have hdn : ¬ d < 0 := by omega
  have c2 := divC_at n.natAbs d.natAbs
  have sa1' : Sm n.natAbs := sa1
  have sa2' : Sm d.natAbs := sa2
  have hd0 : 0 < d.natAbs := by omega
  simp only [sa1', sa2', hd0, and_self] at c2
  obtain ⟨q, hq⟩ : ∃ q, q = n.natAbs / d.natAbs := ⟨_, rfl⟩
  obtain ⟨r, hr⟩ : ∃ r, r = n.natAbs % d.natAbs := ⟨_, rfl⟩
  have hsq : Sm q := by rw [hq]; exact Sm_le (Nat.div_le_self _ _) sa1'
  have c3 := addC_at q 1
  have hs1 : Sm 1 := Sm_small (by decide)
  simp only [hsq, hs1, and_self] at c3
  rw [← hq, ← hr] at c2
  have m1 : mag 1 = [1] := by rw [mag_pos (by decide)]; simp [B, mag_zero]
  by_cases hn : n < 0
  · have hf := floor_neg hn sa3
    rw [← hq, ← hr] at hf
    by_cases h0 : r = 0
    · rw [if_pos h0, Nat.add_zero] at hf
      rw [hf]
      subst h0
      rcases Nat.eq_zero_or_pos q with hq0 | hq0
      · rw [hq0] at c2
        rw [hq0]
        simp only [eZ, eM, eW, hn, hdn, decide_false, decide_true, mag_zero] at c1 c2 c3 ⊢
        simp [hes, hea, c1, c2, mag_zero]
      · have h1 := mag_len_pos hq0
        have h2 : -((q : Nat) : Int) < 0 := by omega
        simp only [eZ, eM, eW, hn, hdn, h2, decide_false, decide_true, mag_zero, Int.natAbs_neg, Int.natAbs_natCast] at c1 c2 c3 ⊢
        simp [hes, hea, c1, c2, h1, mag_zero]
    · rw [if_neg h0] at hf
      rw [hf]
      have h1 := mag_len_pos (n := r) (by omega)
      have h2 := mag_len_pos (n := q + 1) (by omega)
      have h3 : -(((q + 1 : Nat)) : Int) < 0 := by omega
      simp only [eZ, eM, eW, hn, hdn, h3, decide_false, decide_true, m1, Int.natAbs_neg, Int.natAbs_natCast] at c1 c2 c3 ⊢
      simp [dg] at c3
      simp [hes, hea, c1, c2, c3, h1, h2, dg]
  · have hf : n / d = (q : Int) := by
      rw [hq]
      have e1 : (n.natAbs : Int) = n := by omega
      have e2 : (d.natAbs : Int) = d := by omega
      rw [Int.natCast_ediv, e1, e2]
    rw [hf]
    have hq0 : ¬ ((q : Nat) : Int) < 0 := by omega
    simp only [eZ, eM, eW, hn, hdn, hq0, decide_false, Int.natAbs_natCast] at c1 c2 c3 ⊢
    simp [hes, hea, c1, c2]
theorem l1rFloor_ok : callable Tryz.prog 10 = true := by kernel_rfl

/-! spec.l1rQ -/
def qOfR (r : SR) : Int × Int × Bool := match r with
  | .big p q => if p.natAbs ≤ 1000000000000000000 ∧ q.natAbs ≤ 1000000000000000000 then (p, q, true) else (0, 0, false)
  | r => (r.num / (Int.gcd r.num r.den : Int), r.den / (Int.gcd r.num r.den : Int), true)
noncomputable def rQC := ctD rE (fun p => WR p.a) (fun p => [eQ (qOfR p.a).1 (qOfR p.a).2.1, .lit (.bool (qOfR p.a).2.2)])
theorem rQC_at (a : SR) : rQC [eR a] = (WR a, [eQ (qOfR a).1 (qOfR a).2.1, .lit (.bool (qOfR a).2.2)]) := ctD_at rE_inj ⟨a⟩
noncomputable def rQTb : List (FuncId × Ct) := [(34, .data absC), (33, .data gcdC), (36, .data rzC), (50, .data zIntC)]
theorem rQTb_ok : TbOK N Tryz.prog (tbl rQTb) := tbl_cons (c := .data absC) l1Abs_spec l1Abs_ok (tbl_cons (c := .data gcdC) l1Gcd_spec l1Gcd_ok (tbl_cons (c := .data rzC) l1rZ_spec l1rZ_ok (tbl_cons (c := .data zIntC) l1ZInt_spec l1ZInt_ok tbl_nil)))

@[simp] theorem rQTb1 : tbl rQTb 34 = some (.data absC) := rfl
@[simp] theorem rQTb2 : tbl rQTb 33 = some (.data gcdC) := rfl
@[simp] theorem rQTb3 : tbl rQTb 36 = some (.data rzC) := rfl
@[simp] theorem rQTb4 : tbl rQTb 50 = some (.data zIntC) := rfl
theorem tdiv_dvd {n : Int} {g : Nat} (hg : 0 < g) (h : (g : Int) ∣ n) : Int.tdiv n g = n / g := by
  obtain ⟨k, rfl⟩ := h
  rw [Int.mul_tdiv_cancel_left _ (by omega), Int.mul_ediv_cancel_left _ (by omega)]
theorem l1rQ_spec : SpecD N Tryz.prog 19 rQC := by
  refine rdD (mf := fun f => false) rQTb_ok (fn := Tryz.f19) (by kernel_rfl) rfl (by kernel_rfl) ?_
  rintro ⟨a⟩ ha
  have ha : WR a := ha
  refine ⟨by show 1 ≤ 58; decide, ?_⟩
  simp only [rE, Tryz.f19]
  have c1 := rzC_at a
  simp only [ha] at c1
  rcases a with ⟨n, d⟩ | ⟨n, d⟩ | ⟨n, d⟩
  case small | lit =>
    obtain ⟨x1, x2, x3⟩ := ha
    have i1 : I64 n := by unfold I64; omega
    obtain ⟨g, hg⟩ : ∃ g, g = Int.gcd n d := ⟨_, rfl⟩
    have hg0 : 0 < g := by rw [hg]; exact Int.gcd_pos_of_ne_zero_right _ (by omega)
    have hg1 : (g : Int) ∣ n := by rw [hg]; exact Int.gcd_dvd_left ..
    have hg2 : (g : Int) ∣ d := by rw [hg]; exact Int.gcd_dvd_right ..
    have hgd : (g : Int) ≤ d := Int.le_of_dvd x2 hg2
    have hgn : Nat.gcd n.natAbs d.natAbs = g := hg.symm
    have c2 := absC_at n
    have c3 := gcdC_at n.natAbs d.natAbs
    rw [hgn] at c3
    have hn1 : n.natAbs < 18446744073709551616 := by omega
    have hd1 : d.natAbs < 18446744073709551616 := by omega
    simp only [i1, hn1, hd1, and_self, u64D, i64D] at c2 c3
    have w1 : IntKind.u64.wrap d = (d.natAbs : Int) := by rw [wrap_u64]; omega
    have w2 : IntKind.i64.wrap (g : Int) = g := i64_id _ (by omega) (by omega)
    have t1 := tdiv_dvd hg0 hg1
    have t2 := tdiv_dvd hg0 hg2
    have b1 : (n / (g : Int)).natAbs ≤ n.natAbs := by rw [natAbs_div hg0 hg1]; exact Nat.div_le_self _ _
    have b2 : (d / (g : Int)).natAbs ≤ d.natAbs := by rw [natAbs_div hg0 hg2]; exact Nat.div_le_self _ _
    have w3 : IntKind.i64.wrap (n / (g : Int)) = n / (g : Int) := i64_id _ (by omega) (by omega)
    have w4 : IntKind.i64.wrap (d / (g : Int)) = d / (g : Int) := i64_id _ (by omega) (by omega)
    have hgz : ¬ g = 0 := by omega
    simp only [qOfR, SR.num, SR.den, ← hg]
    generalize n / (g : Int) = ng at *
    generalize d / (g : Int) = dg' at *
    generalize n.natAbs = na at *
    generalize d.natAbs = da at *
    simp [eR_small, eR_lit, eQ, i64D, c2, c3, w1, w2, w3, w4, t1, t2, hgz]
  case big =>
    obtain ⟨x1, x2, x3⟩ := ha
    simp only [SR.num, SR.den, eR_big, i64D] at c1
    have c2 := zIntC_at n 1000000000000000000
    have c3 := zIntC_at d 1000000000000000000
    simp only [x1, x2, u64D, i64D] at c2 c3
    by_cases h1 : n.natAbs ≤ 1000000000000000000 <;> by_cases h2 : d.natAbs ≤ 1000000000000000000 <;> simp [h1, h2] at c2 c3 <;> simp [qOfR, eR_big, eQ, i64D, c1, c2, c3, h1, h2]
theorem l1rQ_ok : callable Tryz.prog 19 = true := by kernel_rfl
end Go.Proofs.YtdkgkcnllhcamaaGreat.Ae

/-! impl.bigInt: put, SetInt64, newBigInt. No condition. -/
namespace Go.Proofs.YtdkgkcnllhcamaaGreat.Ae
open Go Go.RowKit Go.Proofs.YtdkgkcnllhcamaaGreat.Dig
variable {N : NR}

/-- What lies in a bigInt: a number, or what new makes. -/
inductive BC where
  | z (v : Int)
  | new
def eB : BC → D
  | .z v => eZ v
  | .new => .agg [.lit (.bool false), .lit (.slice none 0 0)]
theorem eB_inj : ∀ {a b : BC}, eB a = eB b → a = b
  | .z v, .z w, h => by rw [eZ_inj h]
  | .z v, .new, h => by simp [eB, eZ, eM, eW] at h
  | .new, .z w, h => by simp [eB, eZ, eM, eW] at h
  | .new, .new, _ => rfl

structure PutA where
  neg : Bool
  m : Nat
  c : BC
def putE (p : PutA) : List Ar × List D := ([.ref 0, .dat (.lit (.bool p.neg)), .dat (eM p.m)], [eB p.c])
theorem putE_inj (p q : PutA) (h : putE p = putE q) : p = q := by
  obtain ⟨a, b, c⟩ := p; obtain ⟨a', b', c'⟩ := q
  simp only [putE, Prod.mk.injEq, List.cons.injEq, and_true, true_and, Ar.dat.injEq, D.lit.injEq, Value.bool.injEq] at h
  rw [h.1.1, eM_inj h.1.2, eB_inj h.2]
def sg (neg : Bool) (m : Nat) : Int := if neg = true then -(m : Int) else m
noncomputable def putC := ctM putE (fun _ => True) (fun p => ([.ref 0], [eZ (sg p.neg p.m)]))
theorem put_spec : SpecM N Tryz.prog 68 putC := by
  refine rdM (mf := fun f => false) tbl_nil (fn := Tryz.f68) (by kernel_rfl) rfl (by kernel_rfl) ?_
  rintro ⟨neg, m, c⟩ _
  refine ⟨by show 3 ≤ 21; decide, rfl, ?_⟩
  simp only [putE, Tryz.f68]
  rcases Nat.eq_zero_or_pos m with h0 | h0
  · subst h0
    have e : sg neg 0 = 0 := by unfold sg; split <;> rfl
    rw [e]
    cases c <;> cases neg <;> simp [eB, eZ, eM, eW, mag_zero]
  · have h1 := mag_len_pos h0
    have h2 : ¬ ((m : Nat) : Int) < 0 := by omega
    cases c <;> cases neg <;> simp [eB, eZ, eM, eW, sg, h0, h1, h2]
theorem put_ok : callable Tryz.prog 68 = true := by kernel_rfl
theorem putC_at (neg : Bool) (m : Nat) (c : BC) : putC [.ref 0, .dat (.lit (.bool neg)), .dat (eM m)] [eB c] = (True, [.ref 0], [eZ (sg neg m)]) := ctM_at putE_inj ⟨neg, m, c⟩
theorem putC_z (neg : Bool) (m : Nat) (v : Int) : putC [.ref 0, .dat (.lit (.bool neg)), .dat (.sl 1 ((mag m).map dg))] [.agg [.lit (.bool (decide (v < 0))), .sl 1 ((mag v.natAbs).map dg)]] = (True, [.ref 0], [eZ (sg neg m)]) := putC_at neg m (.z v)
theorem putC_n (neg : Bool) (m : Nat) : putC [.ref 0, .dat (.lit (.bool neg)), .dat (.sl 1 ((mag m).map dg))] [.agg [.lit (.bool false), .lit (.slice none 0 0)]] = (True, [.ref 0], [eZ (sg neg m)]) := putC_at neg m .new
def ptM : List Bool := [true, false, false]

/-! SetInt64 -/
structure SetA where
  n : Int
  c : BC
def setE (p : SetA) : List Ar × List D := ([.ref 0, .dat (i64D p.n)], [eB p.c])
theorem setE_inj (p q : SetA) (h : setE p = setE q) : p = q := by
  obtain ⟨a, b⟩ := p; obtain ⟨a', b'⟩ := q
  simp only [setE, Prod.mk.injEq, List.cons.injEq, and_true, true_and, Ar.dat.injEq] at h
  rw [i64D_inj h.1, eB_inj h.2]
noncomputable def setC := ctM setE (fun p => I64 p.n) (fun p => ([.ref 0], [eZ p.n]))
theorem setC_at (n : Int) (c : BC) : setC [.ref 0, .dat (i64D n)] [eB c] = (I64 n, [.ref 0], [eZ n]) := ctM_at setE_inj ⟨n, c⟩
end Go.Proofs.YtdkgkcnllhcamaaGreat.Ae

/-! impl.bigInt: SetInt64, newBigInt, Set, Neg, Abs. No condition. -/
namespace Go.Proofs.YtdkgkcnllhcamaaGreat.Ae
open Go Go.RowKit Go.Proofs.YtdkgkcnllhcamaaGreat.Dig
variable {N : NR}

noncomputable def pTb : List (FuncId × Ct) := [(93, .data trimC), (68, .mut ptM putC)]
theorem pTb_ok : TbOK N Tryz.prog (tbl pTb) := tbl_cons (c := .data trimC) trimmed_spec trimmed_ok (tbl_cons (c := .mut ptM putC) put_spec put_ok tbl_nil)

@[simp] theorem pTb1 : tbl pTb 93 = some (.data trimC) := rfl
@[simp] theorem pTb2 : tbl pTb 68 = some (.mut ptM putC) := rfl
def pMf : FuncId → Bool := fun f => f == 93 || f == 68
attribute [simp] pMf ptM
theorem SetInt64_spec : SpecM N Tryz.prog 72 setC := by
  refine rdM (mf := pMf) pTb_ok (fn := Tryz.f72) (by kernel_rfl) rfl (by kernel_rfl) ?_
  rintro ⟨n, c⟩ hn
  have hn : I64 n := hn
  refine ⟨by show 2 ≤ 23; decide, rfl, ?_⟩
  simp only [setE, i64D, Tryz.f72]
  unfold I64 at hn
  obtain ⟨m, hm⟩ : ∃ m, m = n.natAbs := ⟨_, rfl⟩
  obtain ⟨l, hl⟩ : ∃ l, l = m % 4294967296 := ⟨_, rfl⟩
  obtain ⟨h, hh⟩ : ∃ h, h = m / 4294967296 := ⟨_, rfl⟩
  have r1 : IntKind.u32.wrap (m : Int) = l := by rw [wrap_u32]; omega
  have r2 : IntKind.u32.wrap ((m : Int) / 4294967296) = h := by rw [wrap_u32]; omega
  have hd : Digs [l, h] := (Digs.nil.cons (by simp only [B]; omega)).cons (by simp only [B]; omega)
  have t1 := trimC_at' [l, h] hd
  have hv : val [l, h] = m := by rw [hl, hh]; exact two_digits m
  rw [hv] at t1
  simp [dg] at t1
  by_cases h0 : n < 0
  · have w1 : IntKind.u64.wrap (-IntKind.u64.wrap n) = m := by rw [wrap_u64, wrap_u64]; omega
    have e : sg true m = n := by unfold sg; rw [if_pos rfl]; omega
    have p1 := fun v => putC_z true m v
    have p2 := putC_n true m
    rw [e] at p1 p2

    cases c <;> simp [eB, eZ, eM, eW, dg, h0, w1, r1, r2, t1, p1, p2]
  · have w1 : IntKind.u64.wrap n = m := by rw [wrap_u64]; omega
    have e : sg false m = n := by unfold sg; rw [if_neg (by simp)]; omega
    have p1 := fun v => putC_z false m v
    have p2 := putC_n false m
    rw [e] at p1 p2
    cases c <;> simp [eB, eZ, eM, eW, dg, h0, w1, r1, r2, t1, p1, p2]
theorem SetInt64_ok : callable Tryz.prog 72 = true := by kernel_rfl
theorem setC_n (n : Int) : setC [.ref 0, .dat (.lit (.int .i64 n))] [.agg [.lit (.bool false), .lit (.slice none 0 0)]] = (I64 n, [.ref 0], [eZ n]) := setC_at n .new

/-! newBigInt -/
noncomputable def newC := ctD z1E (fun p => I64 p.a) (fun p => [.ptr (eZ p.a)])
theorem newC_at (a : Int) : newC [i64D a] = (I64 a, [.ptr (eZ a)]) := ctD_at z1E_inj ⟨a⟩
theorem newBigInt_spec : SpecD N Tryz.prog 31 newC := by
  refine rdD (mf := fun f => f == 72) (tbl_cons (f := 72) (c := .mut [true, false] setC) SetInt64_spec SetInt64_ok tbl_nil) (fn := Tryz.f31) (by kernel_rfl) rfl (by kernel_rfl) ?_
  rintro ⟨n⟩ hn
  have hn : I64 n := hn
  refine ⟨by show 1 ≤ 6; decide, ?_⟩
  simp only [z1E, i64D, Tryz.f31]
  have c1 := setC_n n
  simp only [hn] at c1
  simp [c1]
theorem newBigInt_ok : callable Tryz.prog 31 = true := by kernel_rfl

/-! Set, Neg, Abs -/
structure UnA where
  x : Int
  c : BC
def unE (p : UnA) : List Ar × List D := ([.ref 0, .dat (.ptr (eZ p.x))], [eB p.c])
theorem unE_inj (p q : UnA) (h : unE p = unE q) : p = q := by
  obtain ⟨a, b⟩ := p; obtain ⟨a', b'⟩ := q
  simp only [unE, Prod.mk.injEq, List.cons.injEq, and_true, true_and, Ar.dat.injEq, D.ptr.injEq] at h
  rw [eZ_inj h.1, eB_inj h.2]
noncomputable def copyC := ctM unE (fun p => SZ p.x) (fun p => ([.ref 0], [eZ p.x]))
noncomputable def negC := ctM unE (fun p => SZ p.x) (fun p => ([.ref 0], [eZ (-p.x)]))
noncomputable def absIC := ctM unE (fun p => SZ p.x) (fun p => ([.ref 0], [eZ p.x.natAbs]))
theorem sg_self (x : Int) : sg (decide (x < 0)) x.natAbs = x := by
  unfold sg
  by_cases h : x < 0
  · simp [h]; omega
  · simp [h]; omega
end Go.Proofs.YtdkgkcnllhcamaaGreat.Ae

/-! impl: abs64, gcd64. No condition. -/
namespace Go.Proofs.YtdkgkcnllhcamaaGreat.Ae
open Go Go.RowKit Go.Proofs.YtdkgkcnllhcamaaGreat.Dig
variable {N : NR}

theorem abs64_spec : SpecD N Tryz.prog 52 absC := by
  refine rdD (mf := fun f => false) tbl_nil (fn := Tryz.f52) (by kernel_rfl) rfl (by kernel_rfl) ?_
  rintro ⟨x⟩ hx
  have hx : -9223372036854775808 ≤ x ∧ x ≤ 9223372036854775807 := hx
  refine ⟨by show 1 ≤ 10; decide, ?_⟩
  simp only [z1E, i64D, u64D, Tryz.f52]
  generalize hy : ((x.natAbs : Nat) : Int) = y
  by_cases h : x < 0
  · have r1 : IntKind.u64.wrap (IntKind.i64.wrap (-x)) = y := by rw [wrap_u64, wrap_i64]; omega
    simp [h, r1]
  · have r1 : IntKind.u64.wrap x = y := by rw [wrap_u64]; omega
    simp [h, r1]
theorem abs64_ok : callable Tryz.prog 52 = true := by kernel_rfl

theorem gcd64_spec : SpecD N Tryz.prog 51 gcdC := by
  refine rdD (mf := fun f => false) tbl_nil (fn := Tryz.f51) (by kernel_rfl) rfl (by kernel_rfl) ?_
  rintro ⟨a, b⟩ ⟨ha, hb⟩
  have ha : a < 18446744073709551616 := ha
  have hb : b < 18446744073709551616 := hb
  refine ⟨by show 2 ≤ 12; decide, ?_⟩
  simp only [uuE, u64D, Tryz.f51]
  generalize hg : Nat.gcd a b = g
  simp
  refine loop_go (fun n st => ∃ x y : Nat, x < 18446744073709551616 ∧ y < 18446744073709551616 ∧ Nat.gcd x y = g ∧ n = y ∧ st = gcdS x y) (s0 := gcdS a b) (n := b) (snd_of (by simp [LeT, gcdS]) (by simp [gcdS])) ⟨a, b, ha, hb, hg, rfl, rfl⟩ ?_
  rintro y st ⟨x, _, hx, hy, hxy, rfl, rfl⟩ KN hN
  rcases Nat.eq_zero_or_pos y with h0 | h0
  · subst h0
    rw [Nat.gcd_zero_right] at hxy
    subst hxy
    simp [gcdS]
  · have h1 : ¬ y = 0 := by omega
    obtain ⟨r, hr⟩ : ∃ r, r = x % y := ⟨_, rfl⟩
    have hry : r < y := by rw [hr]; exact Nat.mod_lt _ h0
    have q1 := tmod_nat x y
    rw [← hr] at q1
    have q2 : IntKind.u64.wrap (r : Int) = r := by rw [wrap_u64]; omega
    simp [gcdS, h1, q1, q2]
    refine hN _ (nx (m := r) (s'' := gcdS y r) (snd_of (by simp [LeT, gcdS]) (by simp [gcdS])) ⟨y, r, hy, by omega, ?_, rfl, rfl⟩ hry)
    rw [hr, ← hxy, Nat.gcd_comm y, ← Nat.gcd_rec, Nat.gcd_comm]
theorem gcd64_ok : callable Tryz.prog 51 = true := by kernel_rfl

end Go.Proofs.YtdkgkcnllhcamaaGreat.Ae

/-! impl.bigInt: Add. No condition. -/
namespace Go.Proofs.YtdkgkcnllhcamaaGreat.Ae
open Go Go.RowKit Go.Proofs.YtdkgkcnllhcamaaGreat.Dig
variable {N : NR}

inductive BinA where
  | dd (x y : Int) (c : BC)
  | zd (x y : Int)
def BinA.x : BinA → Int
  | dd x _ _ => x
  | zd x _ => x
def BinA.y : BinA → Int
  | dd _ y _ => y
  | zd _ y => y
def binE : BinA → List Ar × List D
  | .dd x y c => ([.ref 0, .dat (.ptr (eZ x)), .dat (.ptr (eZ y))], [eB c])
  | .zd x y => ([.ref 0, .ref 0, .dat (.ptr (eZ y))], [eZ x])
theorem binE_inj : ∀ (p q : BinA), binE p = binE q → p = q
  | .dd a b c, .dd a' b' c', h => by
    simp only [binE, Prod.mk.injEq, List.cons.injEq, and_true, true_and, Ar.dat.injEq, D.ptr.injEq] at h
    rw [eZ_inj h.1.1, eZ_inj h.1.2, eB_inj h.2]
  | .zd a b, .zd a' b', h => by
    simp only [binE, Prod.mk.injEq, List.cons.injEq, and_true, true_and, Ar.dat.injEq, D.ptr.injEq] at h
    rw [eZ_inj h.1, eZ_inj h.2]
  | .dd .., .zd .., h => by simp [binE] at h
  | .zd .., .dd .., h => by simp [binE] at h
noncomputable def iAddC := ctM binE (fun p => SZ p.x ∧ SZ p.y) (fun p => ([.ref 0], [eZ (p.x + p.y)]))
noncomputable def iTb : List (FuncId × Ct) := [(69, .data addC), (70, .data cmpC), (71, .data subC), (99, .data mulC), (68, .mut ptM putC)]
theorem iTb_ok : TbOK N Tryz.prog (tbl iTb) := tbl_cons (c := .data addC) addMag_spec addMag_ok (tbl_cons (c := .data cmpC) cmpMag_spec cmpMag_ok (tbl_cons (c := .data subC) subMag_spec subMag_ok (tbl_cons (c := .data mulC) mulMag_spec mulMag_ok (tbl_cons (c := .mut ptM putC) put_spec put_ok tbl_nil))))

@[simp] theorem iTb1 : tbl iTb 69 = some (.data addC) := rfl
@[simp] theorem iTb2 : tbl iTb 70 = some (.data cmpC) := rfl
@[simp] theorem iTb3 : tbl iTb 71 = some (.data subC) := rfl
@[simp] theorem iTb4 : tbl iTb 99 = some (.data mulC) := rfl
@[simp] theorem iTb5 : tbl iTb 68 = some (.mut ptM putC) := rfl
set_option maxHeartbeats 4000000 in
theorem Add_spec : SpecM N Tryz.prog 30 iAddC := by
  refine rdM (mf := fun f => f == 68) iTb_ok (fn := Tryz.f30) (by kernel_rfl) rfl (by kernel_rfl) ?_
  rintro p ⟨hsa, hsb⟩
  refine ⟨by cases p <;> (show 3 ≤ 73; decide), by cases p <;> rfl, ?_⟩
  obtain ⟨a, b, ha0, hb0, hp⟩ : ∃ a b, p.x = a ∧ p.y = b ∧ ((∃ c, p = .dd a b c) ∨ p = .zd a b) := by
    cases p with
    | dd x y c => exact ⟨x, y, rfl, rfl, .inl ⟨c, rfl⟩⟩
    | zd x y => exact ⟨x, y, rfl, rfl, .inr rfl⟩
  rw [ha0, hb0]
  rw [ha0] at hsa
  rw [hb0] at hsb
  have hsa : Sm a.natAbs := hsa
  have hsb : Sm b.natAbs := hsb
  simp only [Tryz.f30]
  have c1 := addC_at a.natAbs b.natAbs
  have c2 := cmpC_at a.natAbs b.natAbs
  have c3 := subC_at a.natAbs b.natAbs
  have c4 := subC_at b.natAbs a.natAbs
  simp only [hsa, hsb, and_self, true_and] at c1 c2 c3 c4
  have k1 := @cmpV_neg a.natAbs b.natAbs
  generalize cmpV a.natAbs b.natAbs = cv at c2 k1
  clear ha0 hb0
  -- what put is handed
  have fin : ∀ (neg : Bool) (m : Nat), sg neg m = a + b → (∀ v : Int, putC [.ref 0, .dat (.lit (.bool neg)), .dat (.sl 1 ((mag m).map dg))] [.agg [.lit (.bool (decide (v < 0))), .sl 1 ((mag v.natAbs).map dg)]] = (True, [.ref 0], [eZ (a + b)])) ∧ putC [.ref 0, .dat (.lit (.bool neg)), .dat (.sl 1 ((mag m).map dg))] [.agg [.lit (.bool false), .lit (.slice none 0 0)]] = (True, [.ref 0], [eZ (a + b)]) := by
    intro neg m h
    rw [← h]
    exact ⟨fun v => putC_z neg m v, putC_n neg m⟩
  by_cases ha : a < 0 <;> by_cases hb : b < 0
  · obtain ⟨p1, p2⟩ := fin true (a.natAbs + b.natAbs) (by unfold sg; rw [if_pos rfl]; omega)
    have pa := p1 a
    simp only [eM, eW, ha, decide_true] at c1 pa p1
    rcases hp with ⟨c, rfl⟩ | rfl
    · cases c <;> simp [binE, eB, eZ, eM, eW, ha, hb, c1, p1, p2]
    · simp [binE, eB, eZ, eM, eW, ha, hb, c1, pa]
  · by_cases hc : cv < 0
    · have hlt : a.natAbs < b.natAbs := k1.1 hc
      have hle : a.natAbs ≤ b.natAbs := by omega
      obtain ⟨p1, p2⟩ := fin false (b.natAbs - a.natAbs) (by unfold sg; simp; omega)
      have pa := p1 a
      simp only [hle] at c4
      simp only [eM, eW, ha, decide_true, decide_false] at c2 c4 pa p1
      have hc' : ¬ (0 ≤ cv) := by omega
      rcases hp with ⟨c, rfl⟩ | rfl
      · cases c <;> simp [binE, eB, eZ, eM, eW, ha, hb, hc', c2, c4, p1, p2]
      · simp [binE, eB, eZ, eM, eW, ha, hb, hc', c2, c4, pa]
    · have hle : b.natAbs ≤ a.natAbs := by
        rcases Nat.lt_or_ge a.natAbs b.natAbs with h | h
        · exact absurd (k1.2 h) hc
        · exact h
      obtain ⟨p1, p2⟩ := fin true (a.natAbs - b.natAbs) (by unfold sg; simp; omega)
      have pa := p1 a
      simp only [hle] at c3
      simp only [eM, eW, ha, decide_true, decide_false] at c2 c3 pa p1
      have hc' : 0 ≤ cv := by omega
      rcases hp with ⟨c, rfl⟩ | rfl
      · cases c <;> simp [binE, eB, eZ, eM, eW, ha, hb, hc', c2, c3, p1, p2]
      · simp [binE, eB, eZ, eM, eW, ha, hb, hc', c2, c3, pa]
  · by_cases hc : cv < 0
    · have hlt : a.natAbs < b.natAbs := k1.1 hc
      have hle : a.natAbs ≤ b.natAbs := by omega
      obtain ⟨p1, p2⟩ := fin true (b.natAbs - a.natAbs) (by unfold sg; simp; omega)
      have pa := p1 a
      simp only [hle] at c4
      simp only [eM, eW, ha, decide_true, decide_false] at c2 c4 pa p1
      have hc' : ¬ (0 ≤ cv) := by omega
      rcases hp with ⟨c, rfl⟩ | rfl
      · cases c <;> simp [binE, eB, eZ, eM, eW, ha, hb, hc', c2, c4, p1, p2]
      · simp [binE, eB, eZ, eM, eW, ha, hb, hc', c2, c4, pa]
    · have hle : b.natAbs ≤ a.natAbs := by
        rcases Nat.lt_or_ge a.natAbs b.natAbs with h | h
        · exact absurd (k1.2 h) hc
        · exact h
      obtain ⟨p1, p2⟩ := fin false (a.natAbs - b.natAbs) (by unfold sg; simp; omega)
      have pa := p1 a
      simp only [hle] at c3
      simp only [eM, eW, ha, decide_true, decide_false] at c2 c3 pa p1
      have hc' : 0 ≤ cv := by omega
      rcases hp with ⟨c, rfl⟩ | rfl
      · cases c <;> simp [binE, eB, eZ, eM, eW, ha, hb, hc', c2, c3, p1, p2]
      · simp [binE, eB, eZ, eM, eW, ha, hb, hc', c2, c3, pa]
  · obtain ⟨p1, p2⟩ := fin false (a.natAbs + b.natAbs) (by unfold sg; rw [if_neg (by simp)]; omega)
    have pa := p1 a
    simp only [eM, eW, ha, decide_false] at c1 pa p1
    rcases hp with ⟨c, rfl⟩ | rfl
    · cases c <;> simp [binE, eB, eZ, eM, eW, ha, hb, c1, p1, p2]
    · simp [binE, eB, eZ, eM, eW, ha, hb, c1, pa]
theorem Add_ok : callable Tryz.prog 30 = true := by kernel_rfl
end Go.Proofs.YtdkgkcnllhcamaaGreat.Ae

/-! impl.bigInt: Mul, QuoRem, Sign, Cmp. No condition. -/
namespace Go.Proofs.YtdkgkcnllhcamaaGreat.Ae
open Go Go.RowKit Go.Proofs.YtdkgkcnllhcamaaGreat.Dig
variable {N : NR}

noncomputable def iMulC := ctM binE (fun p => SZ p.x ∧ SZ p.y) (fun p => ([.ref 0], [eZ (p.x * p.y)]))
theorem sg_mul (a b : Int) : sg (decide (a < 0) != decide (b < 0)) (a.natAbs * b.natAbs) = a * b := by
  rw [← Int.natAbs_mul]
  by_cases h0 : a * b = 0
  · rw [h0]; unfold sg; split <;> rfl
  · have ha0 : a ≠ 0 := fun h => h0 (by rw [h, Int.zero_mul])
    have hb0 : b ≠ 0 := fun h => h0 (by rw [h, Int.mul_zero])
    have h1 := mul_neg_iff ha0 hb0
    unfold sg
    by_cases ha : a < 0 <;> by_cases hb : b < 0 <;> simp [ha, hb] at h1 <;> simp [ha, hb] <;> omega
set_option maxHeartbeats 4000000 in
theorem Mul_spec : SpecM N Tryz.prog 83 iMulC := by
  refine rdM (mf := fun f => f == 68) iTb_ok (fn := Tryz.f83) (by kernel_rfl) rfl (by kernel_rfl) ?_
  rintro p ⟨hsa, hsb⟩
  refine ⟨by cases p <;> (show 3 ≤ 27; decide), by cases p <;> rfl, ?_⟩
  obtain ⟨a, b, ha0, hb0, hp⟩ : ∃ a b, p.x = a ∧ p.y = b ∧ ((∃ c, p = .dd a b c) ∨ p = .zd a b) := by
    cases p with
    | dd x y c => exact ⟨x, y, rfl, rfl, .inl ⟨c, rfl⟩⟩
    | zd x y => exact ⟨x, y, rfl, rfl, .inr rfl⟩
  rw [ha0, hb0]
  rw [ha0] at hsa
  rw [hb0] at hsb
  have hsa : Sm a.natAbs := hsa
  have hsb : Sm b.natAbs := hsb
  simp only [Tryz.f83]
  have c1 := mulC_at a.natAbs b.natAbs
  simp only [hsa, hsb, and_self] at c1
  clear ha0 hb0
  have p1 := fun v : Int => putC_z (decide (a < 0) != decide (b < 0)) (a.natAbs * b.natAbs) v
  have p2 := putC_n (decide (a < 0) != decide (b < 0)) (a.natAbs * b.natAbs)
  rw [sg_mul] at p1 p2
  have pa := p1 a
  simp only [eM, eW] at c1
  generalize a * b = ab at *
  generalize a.natAbs * b.natAbs = m at *
  by_cases ha : a < 0 <;> by_cases hb : b < 0 <;> simp [ha, hb] at p1 p2 pa
  all_goals
    rcases hp with ⟨c, rfl⟩ | rfl
    · cases c <;> simp [binE, eB, eZ, eM, eW, ha, hb, c1, p1, p2]
    · simp [binE, eB, eZ, eM, eW, ha, hb, c1, pa]
theorem Mul_ok : callable Tryz.prog 83 = true := by kernel_rfl

/-! QuoRem -/
structure QrA where
  x : Int
  y : Int
  c : BC
  d : BC
def qrE (p : QrA) : List Ar × List D := ([.ref 0, .dat (.ptr (eZ p.x)), .dat (.ptr (eZ p.y)), .ref 1], [eB p.c, eB p.d])
theorem qrE_inj (p q : QrA) (h : qrE p = qrE q) : p = q := by
  obtain ⟨a, b, c, d⟩ := p; obtain ⟨a', b', c', d'⟩ := q
  simp only [qrE, Prod.mk.injEq, List.cons.injEq, and_true, true_and, Ar.dat.injEq, D.ptr.injEq] at h
  rw [eZ_inj h.1.1, eZ_inj h.1.2, eB_inj h.2.1, eB_inj h.2.2]
noncomputable def qrC := ctM qrE (fun p => SZ p.x ∧ SZ p.y ∧ p.y ≠ 0) (fun p => ([.ref 0, .ref 1], [eZ (Int.tdiv p.x p.y), eZ (Int.tmod p.x p.y)]))
theorem qrC_at (x y : Int) (c d : BC) : qrC [.ref 0, .dat (.ptr (eZ x)), .dat (.ptr (eZ y)), .ref 1] [eB c, eB d] = ((SZ x ∧ SZ y ∧ y ≠ 0), [.ref 0, .ref 1], [eZ (Int.tdiv x y), eZ (Int.tmod x y)]) := ctM_at qrE_inj ⟨x, y, c, d⟩
theorem sg_div (a b : Int) : sg (decide (a < 0) != decide (b < 0)) (a.natAbs / b.natAbs) = Int.tdiv a b := by
  by_cases ha : a < 0
  · obtain ⟨m, rfl⟩ : ∃ m : Nat, a = -(m : Int) := ⟨a.natAbs, by omega⟩
    by_cases hb : b < 0
    · obtain ⟨k, rfl⟩ : ∃ k : Nat, b = -(k : Int) := ⟨b.natAbs, by omega⟩
      rw [Int.neg_tdiv, Int.tdiv_neg, tdiv_nat, Int.natAbs_neg, Int.natAbs_neg, Int.natAbs_natCast, Int.natAbs_natCast, decide_eq_true ha, decide_eq_true hb]
      simp [sg]
    · obtain ⟨k, rfl⟩ : ∃ k : Nat, b = (k : Int) := ⟨b.natAbs, by omega⟩
      rw [Int.neg_tdiv, tdiv_nat, Int.natAbs_neg, Int.natAbs_natCast, Int.natAbs_natCast, decide_eq_true ha, decide_eq_false hb]
      simp [sg]
  · obtain ⟨m, rfl⟩ : ∃ m : Nat, a = (m : Int) := ⟨a.natAbs, by omega⟩
    by_cases hb : b < 0
    · obtain ⟨k, rfl⟩ : ∃ k : Nat, b = -(k : Int) := ⟨b.natAbs, by omega⟩
      rw [Int.tdiv_neg, tdiv_nat, Int.natAbs_neg, Int.natAbs_natCast, Int.natAbs_natCast, decide_eq_false ha, decide_eq_true hb]
      simp [sg]
    · obtain ⟨k, rfl⟩ : ∃ k : Nat, b = (k : Int) := ⟨b.natAbs, by omega⟩
      rw [tdiv_nat, Int.natAbs_natCast, Int.natAbs_natCast, decide_eq_false ha, decide_eq_false hb]
      simp [sg]
theorem sg_mod (a b : Int) : sg (decide (a < 0)) (a.natAbs % b.natAbs) = Int.tmod a b := by
  have hb : Int.tmod a b = Int.tmod a (b.natAbs : Int) := by
    by_cases hb : b < 0
    · obtain ⟨k, rfl⟩ : ∃ k : Nat, b = -(k : Int) := ⟨b.natAbs, by omega⟩
      rw [Int.tmod_neg, Int.natAbs_neg, Int.natAbs_natCast]
    · have : (b.natAbs : Int) = b := by omega
      rw [this]
  rw [hb]
  by_cases ha : a < 0
  · obtain ⟨m, rfl⟩ : ∃ m : Nat, a = -(m : Int) := ⟨a.natAbs, by omega⟩
    rw [Int.neg_tmod, tmod_nat, Int.natAbs_neg, Int.natAbs_natCast, decide_eq_true ha]
    simp [sg]
  · obtain ⟨m, rfl⟩ : ∃ m : Nat, a = (m : Int) := ⟨a.natAbs, by omega⟩
    rw [tmod_nat, Int.natAbs_natCast, decide_eq_false ha]
    simp [sg]
noncomputable def qrTb : List (FuncId × Ct) := [(103, .data divC), (68, .mut ptM putC)]
theorem qrTb_ok : TbOK N Tryz.prog (tbl qrTb) := tbl_cons (c := .data divC) divMag_spec divMag_ok (tbl_cons (c := .mut ptM putC) put_spec put_ok tbl_nil)

@[simp] theorem qrTb1 : tbl qrTb 103 = some (.data divC) := rfl
@[simp] theorem qrTb2 : tbl qrTb 68 = some (.mut ptM putC) := rfl
set_option maxHeartbeats 4000000 in
theorem QuoRem_spec : SpecM N Tryz.prog 100 qrC := by
  refine rdM (mf := fun f => f == 68) qrTb_ok (fn := Tryz.f100) (by kernel_rfl) rfl (by kernel_rfl) ?_
  rintro ⟨a, b, c, d⟩ ⟨hsa, hsb, h0⟩
  have hsa : Sm a.natAbs := hsa
  have hsb : Sm b.natAbs := hsb
  have h0 : b ≠ 0 := h0
  refine ⟨by show 4 ≤ 44; decide, rfl, ?_⟩
  simp only [qrE, Tryz.f100]
  have c1 := divC_at a.natAbs b.natAbs
  have hb0 : 0 < b.natAbs := by omega
  simp only [hsa, hsb, hb0, and_self] at c1
  have p1 := fun v : Int => putC_z (decide (a < 0) != decide (b < 0)) (a.natAbs / b.natAbs) v
  have p2 := putC_n (decide (a < 0) != decide (b < 0)) (a.natAbs / b.natAbs)
  have p3 := fun v : Int => putC_z (decide (a < 0)) (a.natAbs % b.natAbs) v
  have p4 := putC_n (decide (a < 0)) (a.natAbs % b.natAbs)
  rw [sg_div] at p1 p2
  rw [sg_mod] at p3 p4
  simp only [eM, eW] at c1
  generalize Int.tdiv a b = tq at *
  generalize Int.tmod a b = tr at *
  generalize a.natAbs / b.natAbs = m at *
  generalize a.natAbs % b.natAbs = k at *
  by_cases ha : a < 0 <;> by_cases hb : b < 0 <;> simp [ha, hb] at p1 p2 p3 p4
  all_goals cases c <;> cases d <;> simp [eB, eZ, eM, eW, ha, hb, c1, p1, p2, p3, p4]
theorem QuoRem_ok : callable Tryz.prog 100 = true := by kernel_rfl
end Go.Proofs.YtdkgkcnllhcamaaGreat.Ae

/-! impl.bigInt: Sign, Cmp. No condition. -/
namespace Go.Proofs.YtdkgkcnllhcamaaGreat.Ae
open Go Go.RowKit Go.Proofs.YtdkgkcnllhcamaaGreat.Dig
variable {N : NR}

inductive SgA where
  | d (x : Int)
  | r (x : Int)
def SgA.x : SgA → Int
  | d x => x
  | r x => x
def sgE : SgA → List Ar × List D
  | .d x => ([.dat (.ptr (eZ x))], [])
  | .r x => ([.ref 0], [eZ x])
def SgA.back : SgA → List D
  | .d _ => []
  | .r x => [eZ x]
theorem sgE_inj : ∀ (p q : SgA), sgE p = sgE q → p = q
  | .d a, .d b, h => by
    simp only [sgE, Prod.mk.injEq, List.cons.injEq, and_true, Ar.dat.injEq, D.ptr.injEq] at h
    rw [eZ_inj h]
  | .r a, .r b, h => by
    simp only [sgE, Prod.mk.injEq, List.cons.injEq, and_true, true_and] at h
    rw [eZ_inj h]
  | .d _, .r _, h => by simp [sgE] at h
  | .r _, .d _, h => by simp [sgE] at h
noncomputable def iSignC := ctM sgE (fun _ => True) (fun p => ([.dat (i64D p.x.sign)], p.back))
theorem iSignC_d (x : Int) : iSignC [.dat (.ptr (eZ x))] [] = (True, [.dat (i64D x.sign)], []) := ctM_at sgE_inj (.d x)
theorem iSignC_r (x : Int) : iSignC [.ref 0] [eZ x] = (True, [.dat (i64D x.sign)], [eZ x]) := ctM_at sgE_inj (.r x)
theorem Sign_spec : SpecM N Tryz.prog 87 iSignC := by
  refine rdM (mf := fun f => false) tbl_nil (fn := Tryz.f87) (by kernel_rfl) rfl (by kernel_rfl) ?_
  rintro p _
  refine ⟨by cases p <;> (show 1 ≤ 15; decide), by cases p <;> rfl, ?_⟩
  obtain ⟨x, hx⟩ : ∃ x, p.x = x := ⟨_, rfl⟩
  have hp : p = .d x ∨ p = .r x := by cases p <;> cases hx <;> simp [SgA.x]
  rw [hx]
  clear hx
  simp only [Tryz.f87]
  rcases Int.lt_trichotomy x 0 with h | h | h
  · rw [Int.sign_eq_neg_one_of_neg h]
    rcases hp with rfl | rfl <;> simp [sgE, SgA.back, eZ, eM, eW, h, i64D]
  · subst h
    rcases hp with rfl | rfl <;> simp [sgE, SgA.back, eZ, eM, eW, i64D, mag_zero]
  · have h1 : ¬ x < 0 := by omega
    have h2 := mag_len_pos (n := x.natAbs) (by omega)
    rw [Int.sign_eq_one_of_pos h]
    rcases hp with rfl | rfl <;> simp [sgE, SgA.back, eZ, eM, eW, h1, h2, i64D]
theorem Sign_ok : callable Tryz.prog 87 = true := by kernel_rfl

/-! Cmp -/
def ppE (p : Z2) : List D := [.ptr (eZ p.a), .ptr (eZ p.b)]
theorem ppE_inj (p q : Z2) (h : ppE p = ppE q) : p = q := by
  obtain ⟨a, b⟩ := p; obtain ⟨c, d⟩ := q
  simp only [ppE, List.cons.injEq, and_true, D.ptr.injEq] at h
  rw [eZ_inj h.1, eZ_inj h.2]
noncomputable def iCmpC := ctD ppE (fun p => SZ p.a ∧ SZ p.b) (fun p => [i64D (p.a - p.b).sign])
theorem iCmpC_at (a b : Int) : iCmpC [.ptr (eZ a), .ptr (eZ b)] = ((SZ a ∧ SZ b), [i64D (a - b).sign]) := ctD_at ppE_inj ⟨a, b⟩
theorem cmpV_bd {a b : Nat} (ha : Sm a) (hb : Sm b) : -1099511627776 < cmpV a b ∧ cmpV a b < 1099511627776 := by
  unfold Sm at ha hb
  unfold cmpV
  split
  · repeat' split
    all_goals omega
  · omega
theorem clampS (v : Int) : (if (if 1 < v then 1 else v) < -1 then -1 else if 1 < v then 1 else v) = v.sign := by
  rcases Int.lt_trichotomy v 0 with h | h | h
  · have h1 : ¬ 1 < v := by omega
    rw [Int.sign_eq_neg_one_of_neg h, if_neg h1]
    split <;> omega
  · subst h; rfl
  · rw [Int.sign_eq_one_of_pos h]
    by_cases h1 : 1 < v
    · rw [if_pos h1]; rfl
    · rw [if_neg h1, if_neg (by omega)]; omega
theorem sign_bd (a : Int) : -1 ≤ a.sign ∧ a.sign ≤ 1 := by
  rcases Int.lt_trichotomy a 0 with h | h | h
  · rw [Int.sign_eq_neg_one_of_neg h]; omega
  · subst h; decide
  · rw [Int.sign_eq_one_of_pos h]; omega
noncomputable def cmTb : List (FuncId × Ct) := [(70, .data cmpC), (87, .mut [true] iSignC)]
theorem cmTb_ok : TbOK N Tryz.prog (tbl cmTb) := tbl_cons (c := .data cmpC) cmpMag_spec cmpMag_ok (tbl_cons (c := .mut [true] iSignC) Sign_spec Sign_ok tbl_nil)

@[simp] theorem cmTb1 : tbl cmTb 70 = some (.data cmpC) := rfl
@[simp] theorem cmTb2 : tbl cmTb 87 = some (.mut [true] iSignC) := rfl
set_option maxHeartbeats 4000000 in
theorem Cmp_spec : SpecD N Tryz.prog 92 iCmpC := by
  refine rdD (mf := fun f => f == 87) cmTb_ok (fn := Tryz.f92) (by kernel_rfl) rfl (by kernel_rfl) ?_
  rintro ⟨a, b⟩ ⟨hsa, hsb⟩
  have hsa : Sm a.natAbs := hsa
  have hsb : Sm b.natAbs := hsb
  refine ⟨by show 2 ≤ 40; decide, ?_⟩
  simp only [ppE, Tryz.f92]
  have c1 := cmpC_at a.natAbs b.natAbs
  simp only [hsa, hsb, and_self] at c1
  have k1 := @cmpV_neg a.natAbs b.natAbs
  have k2 := @cmpV_pos a.natAbs b.natAbs
  have k3 := @cmpV_zero a.natAbs b.natAbs
  have k4 := cmpV_bd hsa hsb
  generalize cmpV a.natAbs b.natAbs = cv at *
  have d1 := iSignC_d a
  have d2 := iSignC_d b
  simp only [i64D] at d1 d2 ⊢
  have w1 : IntKind.i64.wrap (-cv) = -cv := i64_id _ (by omega) (by omega)
  have w2 : IntKind.i64.wrap (a.sign - b.sign) = a.sign - b.sign := by
    have h1 := sign_bd a
    have h2 := sign_bd b
    exact i64_id _ (by omega) (by omega)
  by_cases ha : a < 0 <;> by_cases hb : b < 0
  · have e : (a - b).sign = -cv.sign := by
      rcases Int.lt_trichotomy a b with h | h | h
      · rw [Int.sign_eq_neg_one_of_neg (by omega), Int.sign_eq_one_of_pos (k2.2 (by omega))]
      · rw [k3.2 (by omega), h, Int.sub_self]; rfl
      · rw [Int.sign_eq_one_of_pos (by omega), Int.sign_eq_neg_one_of_neg (k1.2 (by omega))]; rfl
    rw [e]
    simp only [eZ, eM, eW, ha, hb, decide_true] at c1 d1 d2 ⊢
    simp [c1, w1, clampS]
  · have e : (a - b).sign = (a.sign - b.sign).sign := by
      rw [Int.sign_eq_neg_one_of_neg (by omega : a - b < 0), Int.sign_eq_neg_one_of_neg ha]
      rcases Int.lt_trichotomy b 0 with h | h | h
      · omega
      · subst h; rfl
      · rw [Int.sign_eq_one_of_pos h]; rfl
    rw [e]
    simp only [eZ, eM, eW, ha, hb, decide_true, decide_false] at c1 d1 d2 ⊢
    simp [c1, d1, d2, w2, clampS]
  · have e : (a - b).sign = (a.sign - b.sign).sign := by
      rw [Int.sign_eq_one_of_pos (by omega : 0 < a - b), Int.sign_eq_neg_one_of_neg hb]
      rcases Int.lt_trichotomy a 0 with h | h | h
      · omega
      · subst h; rfl
      · rw [Int.sign_eq_one_of_pos h]; rfl
    rw [e]
    simp only [eZ, eM, eW, ha, hb, decide_true, decide_false] at c1 d1 d2 ⊢
    simp [c1, d1, d2, w2, clampS]
  · have e : (a - b).sign = cv.sign := by
      rcases Int.lt_trichotomy a b with h | h | h
      · rw [Int.sign_eq_neg_one_of_neg (by omega), Int.sign_eq_neg_one_of_neg (k1.2 (by omega))]
      · rw [k3.2 (by omega), h, Int.sub_self]
      · rw [Int.sign_eq_one_of_pos (by omega), Int.sign_eq_one_of_pos (k2.2 (by omega))]
    rw [e]
    simp only [eZ, eM, eW, ha, hb, decide_false] at c1 d1 d2 ⊢
    simp [c1, clampS]
theorem Cmp_ok : callable Tryz.prog 92 = true := by kernel_rfl
end Go.Proofs.YtdkgkcnllhcamaaGreat.Ae

/-! impl.bigInt: Abs, Uint64. No condition. -/
namespace Go.Proofs.YtdkgkcnllhcamaaGreat.Ae
open Go Go.RowKit Go.Proofs.YtdkgkcnllhcamaaGreat.Dig
variable {N : NR}

theorem Abs_spec : SpecM N Tryz.prog 101 absIC := by
  refine rdM (mf := pMf) pTb_ok (fn := Tryz.f101) (by kernel_rfl) rfl (by kernel_rfl) ?_
  rintro ⟨x, c⟩ hx
  have hx : Sm x.natAbs := hx
  simp only [Sm] at hx
  refine ⟨by show 2 ≤ 13; decide, rfl, ?_⟩
  simp only [unE, Tryz.f101]
  have e : sg false x.natAbs = (x.natAbs : Int) := by unfold sg; rw [if_neg (by simp)]
  have p1 := fun v => putC_z false x.natAbs v
  have p2 := putC_n false x.natAbs
  rw [e] at p1 p2
  have hmx := maxLen_ge
  cases c <;> simp [eB, eZ, eM, eW, p1, p2] <;> omega
theorem Abs_ok : callable Tryz.prog 101 = true := by kernel_rfl

/-! Uint64 -/
def pE (p : Z1) : List D := [.ptr (eZ p.a)]
theorem pE_inj (p q : Z1) (h : pE p = pE q) : p = q := by
  obtain ⟨a⟩ := p; obtain ⟨c⟩ := q
  simp only [pE, List.cons.injEq, and_true, D.ptr.injEq] at h
  rw [eZ_inj h]
noncomputable def u64C := ctD pE (fun p => SZ p.a) (fun p => [u64D (p.a.natAbs % 18446744073709551616)])
theorem u64C_at (a : Int) : u64C [.ptr (eZ a)] = (SZ a, [u64D (a.natAbs % 18446744073709551616)]) := ctD_at pE_inj ⟨a⟩
def u64S (xs : List Nat) (o i : Nat) : St := ⟨[.any, .any, .any, .dat (.lit (.int .u64 o)), .any, .any, .any, .any, .any, .any, .any, .any, .any, .any, .any, .any, .dat (.sl 1 (xs.map dg)), .dat (.lit (.int .i64 xs.length)), .dat (.lit (.int .i64 i)), .any, .any, .any, .any, .any, .any, .any, .any, .any, .any, .any, .any, .any], [none, none, none, none, none, none, none, none, none, none, none, none, none, none, none, none, none, none, none, none, none, none, none, none, none, none, none, none, none, none, none, none]⟩
end Go.Proofs.YtdkgkcnllhcamaaGreat.Ae

/-! impl.bigInt: Set, Neg. No condition. -/
namespace Go.Proofs.YtdkgkcnllhcamaaGreat.Ae
open Go Go.RowKit Go.Proofs.YtdkgkcnllhcamaaGreat.Dig
variable {N : NR}

theorem Set_spec : SpecM N Tryz.prog 86 copyC := by
  refine rdM (mf := fun f => pMf f || f == cel 10) pTb_ok (fn := Tryz.f86) (by kernel_rfl) rfl (by kernel_rfl) ?_
  rintro ⟨x, c⟩ hx
  have hx : Sm x.natAbs := hx
  simp only [Sm] at hx
  refine ⟨by show 2 ≤ 17; decide, rfl, ?_⟩
  simp only [unE, Tryz.f86]
  have p1 := fun v => putC_z (decide (x < 0)) x.natAbs v
  have p2 := putC_n (decide (x < 0)) x.natAbs
  rw [sg_self] at p1 p2
  have hmx := maxLen_ge
  cases c <;> simp [eB, eZ, eM, eW, p1, p2] <;> omega
theorem Set_ok : callable Tryz.prog 86 = true := by kernel_rfl
theorem copyC_at (x : Int) (c : BC) : copyC [.ref 0, .dat (.ptr (eZ x))] [eB c] = (SZ x, [.ref 0], [eZ x]) := ctM_at unE_inj ⟨x, c⟩
theorem copyC_n (x : Int) : copyC [.ref 0, .dat (.ptr (eZ x))] [.agg [.lit (.bool false), .lit (.slice none 0 0)]] = (SZ x, [.ref 0], [eZ x]) := copyC_at x .new

/-! Neg: z may be x -/
inductive NgA where
  | d (x : Int) (c : BC)
  | r (x : Int)
def NgA.x : NgA → Int
  | d x _ => x
  | r x => x
def ngE : NgA → List Ar × List D
  | .d x c => ([.ref 0, .dat (.ptr (eZ x))], [eB c])
  | .r x => ([.ref 0, .ref 0], [eZ x])
theorem ngE_inj : ∀ (p q : NgA), ngE p = ngE q → p = q
  | .d a c, .d b c', h => by
    simp only [ngE, Prod.mk.injEq, List.cons.injEq, and_true, true_and, Ar.dat.injEq, D.ptr.injEq] at h
    rw [eZ_inj h.1, eB_inj h.2]
  | .r a, .r b, h => by
    simp only [ngE, Prod.mk.injEq, List.cons.injEq, and_true, true_and] at h
    rw [eZ_inj h]
  | .d _ _, .r _, h => by simp [ngE] at h
  | .r _, .d _ _, h => by simp [ngE] at h
noncomputable def ngC := ctM ngE (fun p => SZ p.x) (fun p => ([.ref 0], [eZ (-p.x)]))
theorem ngC_d (x : Int) (c : BC) : ngC [.ref 0, .dat (.ptr (eZ x))] [eB c] = (SZ x, [.ref 0], [eZ (-x)]) := ctM_at ngE_inj (.d x c)
theorem ngC_n (x : Int) : ngC [.ref 0, .dat (.ptr (eZ x))] [.agg [.lit (.bool false), .lit (.slice none 0 0)]] = (SZ x, [.ref 0], [eZ (-x)]) := ngC_d x .new
theorem ngC_r (x : Int) : ngC [.ref 0, .ref 0] [eZ x] = (SZ x, [.ref 0], [eZ (-x)]) := ctM_at ngE_inj (.r x)
theorem sg_neg (x : Int) : sg (!decide (x < 0)) x.natAbs = -x := by
  unfold sg
  by_cases h : x < 0
  · simp [h]; omega
  · simp [h]; omega
theorem Neg_spec : SpecM N Tryz.prog 97 ngC := by
  refine rdM (mf := fun f => pMf f || f == cel 11) pTb_ok (fn := Tryz.f97) (by kernel_rfl) rfl (by kernel_rfl) ?_
  rintro p hx
  refine ⟨by cases p <;> (show 2 ≤ 18; decide), by cases p <;> rfl, ?_⟩
  obtain ⟨x, hpx, hp⟩ : ∃ x, p.x = x ∧ ((∃ c, p = .d x c) ∨ p = .r x) := by
    cases p with
    | d x c => exact ⟨x, rfl, .inl ⟨c, rfl⟩⟩
    | r x => exact ⟨x, rfl, .inr rfl⟩
  rw [hpx]
  rw [hpx] at hx
  have hx : Sm x.natAbs := hx
  simp only [Sm] at hx
  simp only [Tryz.f97]
  have p1 := fun v => putC_z (!decide (x < 0)) x.natAbs v
  have p2 := putC_n (!decide (x < 0)) x.natAbs
  rw [sg_neg] at p1 p2
  have hmx := maxLen_ge
  rcases hp with ⟨c, rfl⟩ | rfl
  · cases c <;> simp [ngE, eB, eZ, eM, eW, p1, p2] <;> omega
  · simp [ngE, eB, eZ, eM, eW, p1, p2] <;> omega
theorem Neg_ok : callable Tryz.prog 97 = true := by kernel_rfl
end Go.Proofs.YtdkgkcnllhcamaaGreat.Ae

/-! impl.bigInt: Uint64, Int64, IsInt64. No condition. -/
namespace Go.Proofs.YtdkgkcnllhcamaaGreat.Ae
open Go Go.RowKit Go.Proofs.YtdkgkcnllhcamaaGreat.Dig
variable {N : NR}

theorem lsub_dg (l : List Nat) (k : Nat) : lsub (l.map dg) 0 k = (l.take k).map dg := by
  unfold lsub
  rw [List.drop_zero, List.map_take]
theorem val_take2 (m : Nat) : val ((mag m).take 2) = m % 18446744073709551616 := by
  rcases Nat.lt_or_ge (mag m).length 2 with h | h
  · rw [List.take_of_length_le (by omega), val_mag]
    have := mag_lt.1 (by omega : (mag m).length ≤ 2)
    simp only [B] at this
    omega
  · have h1 := val_take_drop (mag m) 2 h
    rw [val_mag] at h1
    have h2 := val_lt ((mag_digs m).take 2)
    rw [List.length_take, Nat.min_eq_left h] at h2
    simp only [B] at h1 h2
    omega
theorem Uint64_spec : SpecD N Tryz.prog 95 u64C := by
  refine rdD (mf := fun f => false) tbl_nil (fn := Tryz.f95) (by kernel_rfl) rfl (by kernel_rfl) ?_
  rintro ⟨a⟩ ha
  have ha : Sm a.natAbs := ha
  simp only [Sm] at ha
  refine ⟨by show 1 ≤ 32; decide, ?_⟩
  simp only [pE, u64D, Tryz.f95]
  have hv := val_take2 a.natAbs
  generalize a.natAbs % 18446744073709551616 = res at *
  obtain ⟨k, hk⟩ : ∃ k, k = min (mag a.natAbs).length 2 := ⟨_, rfl⟩
  have hmin : (if (2 : Int) < (mag a.natAbs).length then 2 else ((mag a.natAbs).length : Int)) = (k : Int) := by split <;> omega
  have hkl : (k : Int) ≤ (mag a.natAbs).length := by omega
  have hls := lsub_dg (mag a.natAbs) k
  have htk : (mag a.natAbs).take k = (mag a.natAbs).take 2 := by
    rcases Nat.lt_or_ge (mag a.natAbs).length 2 with h | h
    · rw [List.take_of_length_le (by omega), List.take_of_length_le (by omega)]
    · rw [show k = 2 by omega]
  rw [htk] at hls
  have hxd : Digs ((mag a.natAbs).take 2) := (mag_digs _).take _
  have hxl : ((mag a.natAbs).take 2).length ≤ 2 := by rw [List.length_take]; omega
  have hxk : ((mag a.natAbs).take 2).length = k := by rw [List.length_take]; omega
  generalize (mag a.natAbs).take 2 = xs at *
  have hln : ((xs.length : Nat) : Int) = k := by omega
  simp [eZ, eM, eW, hmin, hkl, hls, hln]
  rw [← hln]
  refine loop_go (fun n st => ∃ i o : Nat, n = xs.length - i ∧ i ≤ xs.length ∧ o = val (xs.take i) ∧ st = u64S xs o i) (s0 := u64S xs 0 0) (n := xs.length) (snd_of (by simp [LeT, u64S]) (by simp [u64S])) ⟨0, 0, rfl, Nat.zero_le _, rfl, rfl⟩ ?_
  rintro n st ⟨i, o, hn, hi, ho, rfl⟩ KN hN
  by_cases h : i < xs.length
  · have e1 := ix_dg xs i h
    obtain ⟨x, hx⟩ : ∃ x, x = xs.getD i 0 := ⟨_, rfl⟩
    have hxB : x < 4294967296 := by rw [hx]; exact getD_lt hxd _
    have hs := val_take_succ xs i x (by rw [hx, List.getD_eq_getElem?_getD, List.getElem?_eq_getElem h]; rfl)
    rw [← ho] at hs
    rw [← hx] at e1
    have w1 : IntKind.u64.wrap (x : Int) = x := by rw [wrap_u64]; omega
    obtain ⟨o', ho'⟩ : ∃ o', o' = val (xs.take (i + 1)) := ⟨_, rfl⟩
    rw [← ho'] at hs
    have hkeep : ∀ s, Snd s (u64S xs o' (i + 1)) → KN s := fun s hs => hN _ (nx (m := xs.length - (i + 1)) (s'' := u64S xs o' (i + 1)) hs ⟨i + 1, o', rfl, h, ho', rfl⟩ (by omega))
    rcases i with _ | _ | i
    · have hl : 0 < xs.length := h
      have ho0 : o = 0 := by rw [ho]; rfl
      subst ho0
      have hb := bOr64 0 x (by omega) (by omega)
      rw [Nat.zero_or] at hb
      have : x = o' := by rw [hs, Nat.pow_zero]; omega
      subst this
      simp at hb
      have w2 : IntKind.i64.wrap 0 = 0 := by rw [wrap_i64]; rfl
      have w3 : IntKind.i64.wrap 1 = 1 := by rw [wrap_i64]; rfl
      simp [u64S, hl, e1, dg, w1, w2, w3, hb]
      exact hkeep _ (snd_of (by simp [LeT, u64S]) (by simp [u64S]))
    · have hl : 1 < xs.length := h
      have hoB : o < 4294967296 := by
        have h1 := val_lt (hxd.take 1)
        rw [List.length_take, Nat.min_eq_left (by omega)] at h1
        have : o = val (xs.take 1) := ho
        simp only [B] at h1
        omega
      have hsx : o + x * 4294967296 = o' := by simp only [B] at hs; omega
      have hb := bOr64 o (x * 4294967296) (by omega) (by omega)
      have hor : o ||| x * 4294967296 = o' := by rw [Nat.or_comm, or_cut x o hoB]; omega
      rw [hor] at hb
      have w2 : IntKind.i64.wrap 32 = 32 := by rw [wrap_i64]; rfl
      have w3 : IntKind.i64.wrap 2 = 2 := by rw [wrap_i64]; rfl
      have w4 : IntKind.u64.wrap ((x : Int) * 4294967296) = ((x * 4294967296 : Nat) : Int) := by rw [wrap_u64]; omega
      have hl' : (1 : Int) < xs.length := by omega
      rw [Int.natCast_mul] at hb
      have hb : bOr .u64 (o : Int) ((x : Int) * 4294967296) = o' := hb
      simp [u64S, hl', e1, dg, w1, w2, w3, w4, hb]
      refine hkeep _ ?_
      exact snd_of (by simp [LeT, u64S]) (by simp [u64S])
    · exact absurd h (by omega)
  · have h0 : i = xs.length := by omega
    subst h0
    rw [List.take_length, hv] at ho
    subst ho
    simp [u64S]
theorem Uint64_ok : callable Tryz.prog 95 = true := by kernel_rfl
end Go.Proofs.YtdkgkcnllhcamaaGreat.Ae

/-! impl.bigInt: Int64, IsInt64, Sub, Quo. No condition. -/
namespace Go.Proofs.YtdkgkcnllhcamaaGreat.Ae
open Go Go.RowKit Go.Proofs.YtdkgkcnllhcamaaGreat.Dig
variable {N : NR}

/-- Sign, where the number is only read. -/
noncomputable def sgDC := ctD pE (fun _ => True) (fun p => [i64D p.a.sign])
theorem sgDC_at (a : Int) : sgDC [.ptr (eZ a)] = (True, [i64D a.sign]) := ctD_at pE_inj ⟨a⟩
theorem SignD_spec : SpecD N Tryz.prog 87 sgDC := by
  refine rdD (mf := fun f => false) tbl_nil (fn := Tryz.f87) (by kernel_rfl) rfl (by kernel_rfl) ?_
  rintro ⟨x⟩ _
  refine ⟨by show 1 ≤ 15; decide, ?_⟩
  simp only [Tryz.f87]
  rcases Int.lt_trichotomy x 0 with h | h | h
  · rw [Int.sign_eq_neg_one_of_neg h]
    simp [pE, eZ, eM, eW, h, i64D]
  · subst h
    simp [pE, eZ, eM, eW, i64D, mag_zero]
  · have h1 : ¬ x < 0 := by omega
    have h2 := mag_len_pos (n := x.natAbs) (by omega)
    rw [Int.sign_eq_one_of_pos h]
    simp [pE, eZ, eM, eW, h1, h2, i64D]
instance (a : Int) : Decidable (I64 a) := by unfold I64; infer_instance
@[simp] theorem eZ_lit (z : Int) : (eZ z).isLit = false := rfl
theorem SZ_I64 {a : Int} (h : I64 a) : SZ a := by
  unfold I64 at h
  exact Sm_small (by omega)
noncomputable def uTb : List (FuncId × Ct) := [(95, .data u64C)]
theorem uTb_ok : TbOK N Tryz.prog (tbl uTb) := tbl_cons (c := .data u64C) Uint64_spec Uint64_ok tbl_nil

@[simp] theorem uTb1 : tbl uTb 95 = some (.data u64C) := rfl
noncomputable def int64C := ctD pE (fun p => I64 p.a) (fun p => [i64D p.a])
theorem int64C_at (a : Int) : int64C [.ptr (eZ a)] = (I64 a, [i64D a]) := ctD_at pE_inj ⟨a⟩
theorem Int64_spec : SpecD N Tryz.prog 81 int64C := by
  refine rdD (mf := fun f => false) uTb_ok (fn := Tryz.f81) (by kernel_rfl) rfl (by kernel_rfl) ?_
  rintro ⟨a⟩ ha
  have ha : I64 a := ha
  refine ⟨by show 1 ≤ 14; decide, ?_⟩
  simp only [pE, i64D, Tryz.f81]
  have c1 := u64C_at a
  have h1 := SZ_I64 ha
  unfold I64 at ha
  have e1 : a.natAbs % 18446744073709551616 = a.natAbs := Nat.mod_eq_of_lt (by omega)
  simp only [h1, e1, u64D] at c1
  by_cases h : a < 0
  · have w1 : IntKind.i64.wrap (-IntKind.i64.wrap (a.natAbs : Int)) = a := by rw [wrap_i64, wrap_i64]; omega
    generalize a.natAbs = m at *
    simp only [eZ, eM, eW, h, decide_true] at c1 ⊢
    simp [c1, w1]
  · have w1 : IntKind.i64.wrap (a.natAbs : Int) = a := by rw [wrap_i64]; omega
    generalize a.natAbs = m at *
    simp only [eZ, eM, eW, h, decide_false] at c1 ⊢
    simp [c1, w1]
theorem Int64_ok : callable Tryz.prog 81 = true := by kernel_rfl
noncomputable def isI64C := ctD pE (fun p => SZ p.a) (fun p => [.lit (.bool (decide (I64 p.a)))])
theorem isI64C_at (a : Int) : isI64C [.ptr (eZ a)] = (SZ a, [.lit (.bool (decide (I64 a)))]) := ctD_at pE_inj ⟨a⟩
theorem IsInt64_spec : SpecD N Tryz.prog 80 isI64C := by
  refine rdD (mf := fun f => false) uTb_ok (fn := Tryz.f80) (by kernel_rfl) rfl (by kernel_rfl) ?_
  rintro ⟨a⟩ ha
  have ha : SZ a := ha
  refine ⟨by show 1 ≤ 25; decide, ?_⟩
  simp only [pE, Tryz.f80]
  have c1 := u64C_at a
  simp only [ha, u64D] at c1
  by_cases hl : (mag a.natAbs).length ≤ 2
  · have hB : a.natAbs < 18446744073709551616 := by
      have := mag_lt.1 hl
      simp only [B] at this; omega
    have e1 : a.natAbs % 18446744073709551616 = a.natAbs := Nat.mod_eq_of_lt hB
    have hl' : ((mag a.natAbs).length : Int) ≤ 2 := by omega
    have hl2 : ¬ (2 : Int) < (mag a.natAbs).length := by omega
    rw [e1] at c1
    by_cases h : a < 0
    · by_cases h2 : a.natAbs < 9223372036854775808
      · have h3 : I64 a := by unfold I64; omega
        have h2' : ((a.natAbs : Nat) : Int) < 9223372036854775808 := by omega
        simp only [h3, decide_true]
        simp only [eZ, eM, eW, h, decide_true] at c1 ⊢
        generalize a.natAbs = m at *
        simp [c1, hl', hl2, h2']
      · have h2' : ¬ ((a.natAbs : Nat) : Int) < 9223372036854775808 := by omega
        by_cases h4 : a.natAbs = 9223372036854775808
        · have h3 : I64 a := by unfold I64; omega
          simp only [h3, decide_true]
          simp only [eZ, eM, eW, h, decide_true] at c1 ⊢
          have h5 : ((a.natAbs : Nat) : Int) = 9223372036854775808 := by omega
          generalize a.natAbs = m at *
          simp [c1, hl', hl2, h5]
        · have h3 : ¬ I64 a := by unfold I64; omega
          have h4' : ¬ ((a.natAbs : Nat) : Int) = 9223372036854775808 := by omega
          simp only [h3, decide_false]
          simp only [eZ, eM, eW, h, decide_true] at c1 ⊢
          generalize a.natAbs = m at *
          simp [c1, hl', hl2, h2', h4']
    · have hI : I64 a ↔ a.natAbs < 9223372036854775808 := by unfold I64; omega
      simp only [hI]
      simp only [eZ, eM, eW, h, decide_false] at c1 ⊢
      generalize a.natAbs = m at *
      by_cases h2 : m < 9223372036854775808
      · have h2' : ((m : Nat) : Int) < 9223372036854775808 := by omega
        simp [c1, hl', hl2, h2, h2']
      · have h2' : ¬ ((m : Nat) : Int) < 9223372036854775808 := by omega
        simp [c1, hl', hl2, h2, h2']
  · have h3 : ¬ I64 a := by
      intro h
      unfold I64 at h
      have h1 : a.natAbs < B ^ 2 := by simp only [B]; omega
      exact hl (mag_lt.2 h1)
    have hl' : ¬ ((mag a.natAbs).length : Int) ≤ 2 := by omega
    simp only [h3, decide_false]
    simp [eZ, eM, eW, hl']
theorem IsInt64_ok : callable Tryz.prog 80 = true := by kernel_rfl
end Go.Proofs.YtdkgkcnllhcamaaGreat.Ae

/-! impl.bigInt: Sub, Quo, DivMod, Div. No condition. -/
namespace Go.Proofs.YtdkgkcnllhcamaaGreat.Ae
open Go Go.RowKit Go.Proofs.YtdkgkcnllhcamaaGreat.Dig
variable {N : NR}

/-- What new makes. -/
theorem eB_new : eB .new = .agg [.lit (.bool false), .lit (.slice none 0 0)] := rfl
theorem eB_z (v : Int) : eB (.z v) = eZ v := rfl
@[simp] theorem eB_size (c : BC) : (eB c).size = 2 := by cases c <;> rfl
@[simp] theorem eB_agg (c : BC) : (eB c).isAgg = true := by cases c <;> rfl
@[simp] theorem eB_islit (c : BC) : (eB c).isLit = false := by cases c <;> rfl
theorem iAddC_dd (x y : Int) (c : BC) : iAddC [.ref 0, .dat (.ptr (eZ x)), .dat (.ptr (eZ y))] [eB c] = ((SZ x ∧ SZ y), [.ref 0], [eZ (x + y)]) := ctM_at binE_inj (.dd x y c)
theorem iAddC_zd (x y : Int) : iAddC [.ref 0, .ref 0, .dat (.ptr (eZ y))] [eZ x] = ((SZ x ∧ SZ y), [.ref 0], [eZ (x + y)]) := ctM_at binE_inj (.zd x y)
theorem iMulC_dd (x y : Int) (c : BC) : iMulC [.ref 0, .dat (.ptr (eZ x)), .dat (.ptr (eZ y))] [eB c] = ((SZ x ∧ SZ y), [.ref 0], [eZ (x * y)]) := ctM_at binE_inj (.dd x y c)
theorem iMulC_zd (x y : Int) : iMulC [.ref 0, .ref 0, .dat (.ptr (eZ y))] [eZ x] = ((SZ x ∧ SZ y), [.ref 0], [eZ (x * y)]) := ctM_at binE_inj (.zd x y)
noncomputable def iSubC := ctM binE (fun p => SZ p.x ∧ SZ p.y) (fun p => ([.ref 0], [eZ (p.x - p.y)]))
theorem iSubC_dd (x y : Int) (c : BC) : iSubC [.ref 0, .dat (.ptr (eZ x)), .dat (.ptr (eZ y))] [eB c] = ((SZ x ∧ SZ y), [.ref 0], [eZ (x - y)]) := ctM_at binE_inj (.dd x y c)
theorem iSubC_zd (x y : Int) : iSubC [.ref 0, .ref 0, .dat (.ptr (eZ y))] [eZ x] = ((SZ x ∧ SZ y), [.ref 0], [eZ (x - y)]) := ctM_at binE_inj (.zd x y)
noncomputable def sbTb : List (FuncId × Ct) := [(97, .mut [true, false] ngC), (30, .mut [true, false, false] iAddC)]
theorem sbTb_ok : TbOK N Tryz.prog (tbl sbTb) := tbl_cons (c := .mut [true, false] ngC) Neg_spec Neg_ok (tbl_cons (c := .mut [true, false, false] iAddC) Add_spec Add_ok tbl_nil)

@[simp] theorem sbTb1 : tbl sbTb 97 = some (.mut [true, false] ngC) := rfl
@[simp] theorem sbTb2 : tbl sbTb 30 = some (.mut [true, false, false] iAddC) := rfl
theorem Sub_spec : SpecM N Tryz.prog 102 iSubC := by
  refine rdM (mf := fun f => f == 97 || f == 30) sbTb_ok (fn := Tryz.f102) (by kernel_rfl) rfl (by kernel_rfl) ?_
  rintro p ⟨hsa, hsb⟩
  refine ⟨by cases p <;> (show 3 ≤ 13; decide), by cases p <;> rfl, ?_⟩
  simp only [Tryz.f102]
  rcases p with ⟨x, y, c⟩ | ⟨x, y⟩
  · have hsa : SZ x := hsa
    have hsb : SZ y := hsb
    have c1 := ngC_n y
    have c2 := iAddC_dd x (-y) c
    simp only [hsa, hsb, SZ_neg, and_self] at c1 c2
    simp [binE, BinA.x, BinA.y, c1, c2, Int.sub_eq_add_neg]
  · have hsa : SZ x := hsa
    have hsb : SZ y := hsb
    have c1 := ngC_n y
    have c2 := iAddC_zd x (-y)
    simp only [hsa, hsb, SZ_neg, and_self] at c1 c2
    simp [binE, BinA.x, BinA.y, c1, c2, Int.sub_eq_add_neg]
theorem Sub_ok : callable Tryz.prog 102 = true := by kernel_rfl

/-! Quo -/
inductive QuA where
  | dd (x y : Int) (c : BC)
def QuA.x : QuA → Int
  | dd x _ _ => x
def QuA.y : QuA → Int
  | dd _ y _ => y
def quE : QuA → List Ar × List D
  | .dd x y c => ([.ref 0, .dat (.ptr (eZ x)), .dat (.ptr (eZ y))], [eB c])
theorem quE_inj : ∀ (p q : QuA), quE p = quE q → p = q
  | .dd a b c, .dd a' b' c', h => by
    simp only [quE, Prod.mk.injEq, List.cons.injEq, and_true, true_and, Ar.dat.injEq, D.ptr.injEq] at h
    rw [eZ_inj h.1.1, eZ_inj h.1.2, eB_inj h.2]
noncomputable def quC := ctM quE (fun p => SZ p.x ∧ SZ p.y ∧ p.y ≠ 0) (fun p => ([.ref 0], [eZ (Int.tdiv p.x p.y)]))
theorem quC_at (x y : Int) (c : BC) : quC [.ref 0, .dat (.ptr (eZ x)), .dat (.ptr (eZ y))] [eB c] = ((SZ x ∧ SZ y ∧ y ≠ 0), [.ref 0], [eZ (Int.tdiv x y)]) := ctM_at quE_inj (.dd x y c)
noncomputable def qoTb : List (FuncId × Ct) := [(100, .mut [true, false, false, true] qrC)]
theorem qoTb_ok : TbOK N Tryz.prog (tbl qoTb) := tbl_cons (c := .mut [true, false, false, true] qrC) QuoRem_spec QuoRem_ok tbl_nil

@[simp] theorem qoTb1 : tbl qoTb 100 = some (.mut [true, false, false, true] qrC) := rfl
theorem Quo_spec : SpecM N Tryz.prog 98 quC := by
  refine rdM (mf := fun f => f == 100) qoTb_ok (fn := Tryz.f98) (by kernel_rfl) rfl (by kernel_rfl) ?_
  rintro ⟨x, y, c⟩ ⟨hx, hy, h0⟩
  have hx : SZ x := hx
  have hy : SZ y := hy
  have h0 : y ≠ 0 := h0
  refine ⟨by show 3 ≤ 18; decide, rfl, ?_⟩
  simp only [Tryz.f98]
  have c1 := qrC_at x y c .new
  simp only [hx, hy, h0, and_self, eB_new, ne_eq, not_false_eq_true] at c1
  simp [quE, QuA.x, QuA.y, List.idxOf_cons, c1]
theorem Quo_ok : callable Tryz.prog 98 = true := by kernel_rfl

/-! DivMod, Div -/
noncomputable def dmC := ctM qrE (fun p => SZ p.x ∧ SZ p.y ∧ p.y ≠ 0) (fun p => ([.ref 0, .ref 1], [eZ (p.x / p.y), eZ (p.x % p.y)]))
theorem dmC_at (x y : Int) (c d : BC) : dmC [.ref 0, .dat (.ptr (eZ x)), .dat (.ptr (eZ y)), .ref 1] [eB c, eB d] = ((SZ x ∧ SZ y ∧ y ≠ 0), [.ref 0, .ref 1], [eZ (x / y), eZ (x % y)]) := ctM_at qrE_inj ⟨x, y, c, d⟩
noncomputable def dmTb0 : List (FuncId × Ct) := [(86, .mut [true, false] copyC), (100, .mut [true, false, false, true] qrC), (87, .data sgDC), (101, .mut [true, false] absIC), (30, .mut [true, false, false] iAddC), (31, .data newC), (102, .mut [true, false, false] iSubC)]
theorem dmTb0_ok : TbOK N Tryz.prog (tbl dmTb0) := tbl_cons (c := .mut [true, false] copyC) Set_spec Set_ok (tbl_cons (c := .mut [true, false, false, true] qrC) QuoRem_spec QuoRem_ok (tbl_cons (c := .data sgDC) SignD_spec Sign_ok (tbl_cons (c := .mut [true, false] absIC) Abs_spec Abs_ok (tbl_cons (c := .mut [true, false, false] iAddC) Add_spec Add_ok (tbl_cons (c := .data newC) newBigInt_spec newBigInt_ok (tbl_cons (c := .mut [true, false, false] iSubC) Sub_spec Sub_ok tbl_nil))))))

@[simp] theorem dmTb1 : tbl dmTb0 86 = some (.mut [true, false] copyC) := rfl
@[simp] theorem dmTb2 : tbl dmTb0 100 = some (.mut [true, false, false, true] qrC) := rfl
@[simp] theorem dmTb3 : tbl dmTb0 87 = some (.data sgDC) := rfl
@[simp] theorem dmTb4 : tbl dmTb0 101 = some (.mut [true, false] absIC) := rfl
@[simp] theorem dmTb5 : tbl dmTb0 30 = some (.mut [true, false, false] iAddC) := rfl
@[simp] theorem dmTb6 : tbl dmTb0 31 = some (.data newC) := rfl
@[simp] theorem dmTb7 : tbl dmTb0 102 = some (.mut [true, false, false] iSubC) := rfl
theorem absIC_at (x : Int) (c : BC) : absIC [.ref 0, .dat (.ptr (eZ x))] [eB c] = (SZ x, [.ref 0], [eZ x.natAbs]) := ctM_at unE_inj ⟨x, c⟩
theorem SZ_tdiv {x y : Int} (h : SZ x) : SZ (Int.tdiv x y) := Sm_le (by rw [Int.natAbs_tdiv]; exact Nat.div_le_self _ _) h
theorem SZ_tmod {x y : Int} (h : SZ x) : SZ (Int.tmod x y) := Sm_le (by rw [Int.natAbs_tmod]; exact Nat.mod_le _ _) h
theorem SZ_abs {x : Int} (h : SZ x) : SZ (x.natAbs : Int) := by unfold SZ; rw [Int.natAbs_natCast]; exact h
theorem div_of_neg {x y : Int} (h0 : y ≠ 0) (h : Int.tmod x y < 0) : x / y = Int.tdiv x y - y.sign ∧ x % y = Int.tmod x y + y.natAbs := by
  have h1 : x < 0 := by
    rcases Int.lt_or_le x 0 with h' | h'
    · exact h'
    · exact absurd (Int.tmod_nonneg y h') (by omega)
  have h2 := Int.tdiv_eq_ediv (a := x) (b := y)
  have h3 := Int.tmod_eq_emod (a := x) (b := y)
  have h4 : ¬ (0 ≤ x ∨ y ∣ x) := by
    rintro (h' | h')
    · omega
    · rw [Int.tmod_eq_zero_of_dvd h'] at h; omega
  rw [if_neg h4] at h2 h3
  constructor <;> omega
theorem div_of_nn {x y : Int} (h : 0 ≤ Int.tmod x y) (h0 : y ≠ 0) : x / y = Int.tdiv x y ∧ x % y = Int.tmod x y := by
  have h2 := Int.tdiv_eq_ediv (a := x) (b := y)
  have h3 := Int.tmod_eq_emod (a := x) (b := y)
  by_cases h4 : 0 ≤ x ∨ y ∣ x
  · rw [if_pos h4] at h2 h3
    constructor <;> omega
  · rw [if_neg h4] at h3
    have h5 := Int.emod_lt x h0
    omega
set_option maxHeartbeats 4000000 in
theorem DivMod_spec : SpecM N Tryz.prog 85 dmC := by
  refine rdM (mf := fun f => f == 86 || f == 100 || f == 87 || f == 101 || f == 30 || f == 102) dmTb0_ok (fn := Tryz.f85) (by kernel_rfl) rfl (by kernel_rfl) ?_
  rintro ⟨x, y, c, d⟩ ⟨hx, hy, h0⟩
  have hx : SZ x := hx
  have hy : SZ y := hy
  have h0 : y ≠ 0 := h0
  refine ⟨by show 4 ≤ 36; decide, rfl, ?_⟩
  simp only [qrE, Tryz.f85]
  have c1 := copyC_at y .new
  have c2 := qrC_at x y c d
  have c3 := sgDC_at (Int.tmod x y)
  have c4 := absIC_at y .new
  have c5 := iAddC_zd (Int.tmod x y) (y.natAbs : Int)
  have c6 := sgDC_at y
  have c7 := newC_at y.sign
  have c8 := iSubC_zd (Int.tdiv x y) y.sign
  have h1 := sign_bd y
  have h2 : I64 y.sign := by unfold I64; omega
  have h3 := SZ_I64 h2
  simp only [hx, hy, h0, SZ_tdiv hx, SZ_tmod hx, SZ_abs hy, h2, h3, and_self, ne_eq, not_false_eq_true, eB_new] at c1 c2 c4 c5 c7 c8
  simp only [i64D] at c3 c6 c7
  have w1 : IntKind.i64.wrap y.sign = y.sign := i64_id _ (by omega) (by omega)
  by_cases hn : Int.tmod x y < 0
  · obtain ⟨e1, e2⟩ := div_of_neg h0 hn
    rw [e1, e2]
    have hs := Int.sign_eq_neg_one_of_neg hn
    rw [hs] at c3
    generalize Int.tmod x y = r at *
    generalize Int.tdiv x y = q at *
    generalize y.sign = s at *
    generalize ((y.natAbs : Nat) : Int) = m at *
    simp [c1, c2, c3, c4, c5, c6, c7, c8, w1, List.idxOf_cons]
  · obtain ⟨e1, e2⟩ := div_of_nn (Int.not_lt.1 hn) h0
    rw [e1, e2]
    have hs : ¬ (Int.tmod x y).sign < 0 := by
      intro h
      exact hn (Int.sign_neg_iff.1 h)
    generalize Int.tmod x y = r at *
    generalize Int.tdiv x y = q at *
    generalize r.sign = s at *
    simp [c1, c2, c3, hs, List.idxOf_cons]
theorem DivMod_ok : callable Tryz.prog 85 = true := by kernel_rfl
noncomputable def idC := ctM quE (fun p => SZ p.x ∧ SZ p.y ∧ p.y ≠ 0) (fun p => ([.ref 0], [eZ (p.x / p.y)]))
theorem idC_at (x y : Int) (c : BC) : idC [.ref 0, .dat (.ptr (eZ x)), .dat (.ptr (eZ y))] [eB c] = ((SZ x ∧ SZ y ∧ y ≠ 0), [.ref 0], [eZ (x / y)]) := ctM_at quE_inj (.dd x y c)
noncomputable def dvTb : List (FuncId × Ct) := [(85, .mut [true, false, false, true] dmC)]
theorem dvTb_ok : TbOK N Tryz.prog (tbl dvTb) := tbl_cons (c := .mut [true, false, false, true] dmC) DivMod_spec DivMod_ok tbl_nil

@[simp] theorem dvTb1 : tbl dvTb 85 = some (.mut [true, false, false, true] dmC) := rfl
theorem Div_spec : SpecM N Tryz.prog 59 idC := by
  refine rdM (mf := fun f => f == 85) dvTb_ok (fn := Tryz.f59) (by kernel_rfl) rfl (by kernel_rfl) ?_
  rintro ⟨x, y, c⟩ ⟨hx, hy, h0⟩
  have hx : SZ x := hx
  have hy : SZ y := hy
  have h0 : y ≠ 0 := h0
  refine ⟨by show 3 ≤ 18; decide, rfl, ?_⟩
  simp only [Tryz.f59]
  have c1 := dmC_at x y c .new
  simp only [hx, hy, h0, and_self, eB_new, ne_eq, not_false_eq_true] at c1
  simp [quE, QuA.x, QuA.y, List.idxOf_cons, c1]
theorem Div_ok : callable Tryz.prog 59 = true := by kernel_rfl
end Go.Proofs.YtdkgkcnllhcamaaGreat.Ae

/-! impl.bigInt: GCD, Sqrt. No condition. -/
namespace Go.Proofs.YtdkgkcnllhcamaaGreat.Ae
open Go Go.RowKit Go.Proofs.YtdkgkcnllhcamaaGreat.Dig
variable {N : NR}

noncomputable def igC := ctM quE (fun p => SZ p.x ∧ SZ p.y) (fun p => ([.ref 0], [eZ (Int.gcd p.x p.y)]))
theorem igC_at (x y : Int) (c : BC) : igC [.ref 0, .dat (.ptr (eZ x)), .dat (.ptr (eZ y))] [eB c] = ((SZ x ∧ SZ y), [.ref 0], [eZ (Int.gcd x y)]) := ctM_at quE_inj (.dd x y c)
noncomputable def igTb : List (FuncId × Ct) := [(86, .mut [true, false] copyC), (100, .mut [true, false, false, true] qrC), (87, .data sgDC), (101, .mut [true, false] absIC)]
theorem igTb_ok : TbOK N Tryz.prog (tbl igTb) := tbl_cons (c := .mut [true, false] copyC) Set_spec Set_ok (tbl_cons (c := .mut [true, false, false, true] qrC) QuoRem_spec QuoRem_ok (tbl_cons (c := .data sgDC) SignD_spec Sign_ok (tbl_cons (c := .mut [true, false] absIC) Abs_spec Abs_ok tbl_nil)))

@[simp] theorem igTb1 : tbl igTb 86 = some (.mut [true, false] copyC) := rfl
@[simp] theorem igTb2 : tbl igTb 100 = some (.mut [true, false, false, true] qrC) := rfl
@[simp] theorem igTb3 : tbl igTb 87 = some (.data sgDC) := rfl
@[simp] theorem igTb4 : tbl igTb 101 = some (.mut [true, false] absIC) := rfl
def gcS (c : BC) (x y : Int) : St := ⟨[.obj 30 [] 0, .any, .any, .any, .any, .any, .any, .obj 7 [] 0, .obj 8 [] 0, .any, .any, .any, .any, .any, .any, .any, .any, .any, .any, .any, .any, .any, .any, .any, .any, .any, .any, .any, .any, .any], [none, none, none, none, none, none, none, some (.fbox (eZ x)), some (.fbox (eZ y)), none, none, none, none, none, none, none, none, none, none, none, none, none, none, none, none, none, none, none, none, none, some (.pbox (eB c))]⟩
set_option maxHeartbeats 4000000 in
theorem GCD_spec : SpecM N Tryz.prog 96 igC := by
  refine rdM (mf := fun f => f == 86 || f == 100 || f == 87 || f == 101) igTb_ok (fn := Tryz.f96) (by kernel_rfl) rfl (by kernel_rfl) ?_
  rintro ⟨a, b, c⟩ ⟨ha, hb⟩
  have ha : SZ a := ha
  have hb : SZ b := hb
  refine ⟨by show 3 ≤ 30; decide, rfl, ?_⟩
  simp only [quE, Tryz.f96, QuA.x, QuA.y]
  have c1 := absIC_at a .new
  have c2 := absIC_at b .new
  simp only [ha, hb, eB_new] at c1 c2
  generalize hg : Int.gcd a b = g
  simp [c1, c2]
  refine loop_go (fun n st => ∃ x y : Nat, SZ x ∧ SZ y ∧ Nat.gcd x y = g ∧ n = y ∧ st = gcS c x y) (s0 := gcS c a.natAbs b.natAbs) (n := b.natAbs) (Snd.trans (Snd.frz _ [10, 13]) (snd_obs (n := 31) [(7, 10, .fbox (eZ a.natAbs)), (8, 13, .fbox (eZ b.natAbs)), (30, 30, .pbox (eB c))] rfl (by simp [St.frz]) (by simp [gcS, St.frz]))) ⟨_, _, SZ_abs ha, SZ_abs hb, hg, rfl, rfl⟩ ?_
  rintro y st ⟨x, _, hx, hy, hxy, rfl, rfl⟩ KN hN
  rcases Nat.eq_zero_or_pos y with h0 | h0
  · subst h0
    rw [Nat.gcd_zero_right] at hxy
    subst hxy
    have d1 := sgDC_at ((0 : Nat) : Int)
    have d2 := copyC_at x c
    simp only [i64D, hx] at d1 d2
    simp at d1
    simp [gcS, d1, d2]
  · have h1 : ((y : Nat) : Int).sign = 1 := Int.sign_eq_one_of_pos (by omega)
    have d1 := sgDC_at y
    have d2 := qrC_at x y .new .new
    have hy0 : ((y : Nat) : Int) ≠ 0 := by omega
    simp only [i64D, hx, hy, hy0, h1, and_self, eB_new, ne_eq, not_false_eq_true, tdiv_nat, tmod_nat] at d1 d2
    obtain ⟨r, hr⟩ : ∃ r, r = x % y := ⟨_, rfl⟩
    obtain ⟨q, hq⟩ : ∃ q, q = x / y := ⟨_, rfl⟩
    have hry : r < y := by rw [hr]; exact Nat.mod_lt _ h0
    rw [← hr, ← hq] at d2
    simp [gcS, d1, d2, List.idxOf_cons]
    refine hN _ (nx (m := r) (s'' := gcS c y r) (Snd.trans (Snd.frz _ [19]) (snd_obs (n := 31) [(7, 8, .fbox (eZ y)), (8, 19, .fbox (eZ r)), (30, 30, .pbox (eB c))] rfl (by simp [St.frz]) (by simp [gcS, St.frz]))) ⟨y, r, hy, SZ_le (by simp; omega) hy, ?_, rfl, rfl⟩ hry)
    rw [hr, ← hxy, Nat.gcd_comm y, ← Nat.gcd_rec, Nat.gcd_comm]
theorem GCD_ok : callable Tryz.prog 96 = true := by kernel_rfl
end Go.Proofs.YtdkgkcnllhcamaaGreat.Ae

/-! impl.bigInt: Sqrt. No condition. -/
namespace Go.Proofs.YtdkgkcnllhcamaaGreat.Ae
open Go Go.RowKit Go.Proofs.YtdkgkcnllhcamaaGreat.Dig
variable {N : NR}

theorem isq_ex : ∀ n : Nat, ∃ k, k * k ≤ n ∧ n < (k + 1) * (k + 1)
  | 0 => ⟨0, by omega, by omega⟩
  | n + 1 => by
    obtain ⟨k, h1, h2⟩ := isq_ex n
    by_cases h : (k + 1) * (k + 1) ≤ n + 1
    · refine ⟨k + 1, h, ?_⟩
      have : (k + 1 + 1) * (k + 1 + 1) = (k + 1) * (k + 1) + 2 * (k + 1) + 1 := by rw [Nat.add_mul, Nat.mul_add]; omega
      omega
    · exact ⟨k, by omega, by omega⟩
/-- The square root, rounded down. -/
noncomputable def isq (n : Nat) : Nat := (isq_ex n).choose
theorem isq_le (n : Nat) : isq n * isq n ≤ n := (isq_ex n).choose_spec.1
theorem isq_lt (n : Nat) : n < (isq n + 1) * (isq n + 1) := (isq_ex n).choose_spec.2
theorem isq_uniq {n k : Nat} (h1 : k * k ≤ n) (h2 : n < (k + 1) * (k + 1)) : isq n = k := by
  have a1 := isq_le n
  have a2 := isq_lt n
  rcases Nat.lt_trichotomy (isq n) k with h | h | h
  · have := Nat.mul_le_mul (show isq n + 1 ≤ k from h) (show isq n + 1 ≤ k from h); omega
  · exact h
  · have := Nat.mul_le_mul (show k + 1 ≤ isq n from h) (show k + 1 ≤ isq n from h); omega

noncomputable def sqrtC := ctM ngE (fun p => (mag p.x.natAbs).length ≤ 1000) (fun p => ([.ref 0], [eZ (isq p.x.natAbs)]))
theorem sqrtC_d (x : Int) (c : BC) : sqrtC [.ref 0, .dat (.ptr (eZ x))] [eB c] = ((mag x.natAbs).length ≤ 1000, [.ref 0], [eZ (isq x.natAbs)]) := ctM_at ngE_inj (.d x c)
theorem sqrtC_r (x : Int) : sqrtC [.ref 0, .ref 0] [eZ x] = ((mag x.natAbs).length ≤ 1000, [.ref 0], [eZ (isq x.natAbs)]) := ctM_at ngE_inj (.r x)
noncomputable def sqTb : List (FuncId × Ct) := [(69, .data addC), (70, .data cmpC), (99, .data mulC), (106, .data shiftC), (68, .mut ptM putC)]
theorem sqTb_ok : TbOK N Tryz.prog (tbl sqTb) := tbl_cons (c := .data addC) addMag_spec addMag_ok (tbl_cons (c := .data cmpC) cmpMag_spec cmpMag_ok (tbl_cons (c := .data mulC) mulMag_spec mulMag_ok (tbl_cons (c := .data shiftC) shiftMag_spec shiftMag_ok (tbl_cons (c := .mut ptM putC) put_spec put_ok tbl_nil))))

@[simp] theorem sqTb1 : tbl sqTb 69 = some (.data addC) := rfl
@[simp] theorem sqTb2 : tbl sqTb 70 = some (.data cmpC) := rfl
@[simp] theorem sqTb3 : tbl sqTb 99 = some (.data mulC) := rfl
@[simp] theorem sqTb4 : tbl sqTb 106 = some (.data shiftC) := rfl
@[simp] theorem sqTb5 : tbl sqTb 68 = some (.mut ptM putC) := rfl
/-- The state of a round: out is still empty, or data. -/
def sqA (x0 : X) (c : D) (j : Int) : St := ⟨[.obj 39 [] 0, x0, .any, .any, .any, .row 8, .dat (.lit (.int .i64 j)), .any, .any, .any, .any, .any, .any, .any, .any, .any, .any, .any, .any, .any, .any, .any, .any, .any, .any, .any, .any, .any, .any, .any, .any, .any, .any, .any, .any, .any, .any, .any, .any], [none, none, none, none, none, none, none, none, some (.frow 1 72 []), none, none, none, none, none, none, none, none, none, none, none, none, none, none, none, none, none, none, none, none, none, none, none, none, none, none, none, none, none, none, some (.pbox c)]⟩
def sqB (x0 : X) (c : D) (o : Nat) (j : Int) : St := ⟨[.obj 39 [] 0, x0, .any, .any, .any, .dat (eM o), .dat (.lit (.int .i64 j)), .any, .any, .any, .any, .any, .any, .any, .any, .any, .any, .any, .any, .any, .any, .any, .any, .any, .any, .any, .any, .any, .any, .any, .any, .any, .any, .any, .any, .any, .any, .any, .any], [none, none, none, none, none, none, none, none, none, none, none, none, none, none, none, none, none, none, none, none, none, none, none, none, none, none, none, none, none, none, none, none, none, none, none, none, none, none, none, some (.pbox c)]⟩
/-- A bit more: what is known behind. -/
theorem sq_step {x o j : Nat} (h1 : o * o ≤ x) (h2 : x < (o + 2 ^ (j + 1)) * (o + 2 ^ (j + 1))) :
    ((o + 2 ^ j) * (o + 2 ^ j) ≤ x → (o + 2 ^ j) * (o + 2 ^ j) ≤ x ∧ x < (o + 2 ^ j + 2 ^ j) * (o + 2 ^ j + 2 ^ j)) ∧ (¬ (o + 2 ^ j) * (o + 2 ^ j) ≤ x → o * o ≤ x ∧ x < (o + 2 ^ j) * (o + 2 ^ j)) := by
  have e : o + 2 ^ (j + 1) = o + 2 ^ j + 2 ^ j := by rw [Nat.pow_succ]; omega
  rw [e] at h2
  exact ⟨fun h => ⟨h, h2⟩, fun h => ⟨h1, by omega⟩⟩
theorem Sm_mul {a b j : Nat} (ha : (mag a).length ≤ j) (hb : (mag b).length ≤ j) (hj : j ≤ 100000) : Sm (a * b) := by
  have h1 := mag_lt.1 ha
  have h2 := mag_lt.1 hb
  have h3 : a * b < B ^ (j + j) := by
    rw [Nat.pow_add]
    rcases Nat.eq_zero_or_pos b with h0 | h0
    · subst h0; rw [Nat.mul_zero]; exact Nat.mul_pos (Nat.pow_pos B_pos) (Nat.pow_pos B_pos)
    · exact Nat.mul_lt_mul'' h1 h2
  have := mag_lt.2 h3
  unfold Sm
  omega
theorem Sm_100 {a : Nat} (ha : (mag a).length ≤ 1002) : Sm a := by unfold Sm; omega
theorem pow32 (j k : Nat) (h : j < 32 * k) : 2 ^ j < B ^ k := by
  have : B ^ k = 2 ^ (32 * k) := by rw [Nat.pow_mul]; rfl
  rw [this]
  exact Nat.pow_lt_pow_right (by omega) h
theorem sq_len {x o j l : Nat} (hl : (mag x).length = l) (hx : l ≤ 1000) (h : o * o ≤ x) (hj : j ≤ 16 * l + 15) : (mag (o + 2 ^ j)).length ≤ 1001 ∧ (mag o).length ≤ 1000 := by
  have ho : o ≤ x := by
    rcases Nat.eq_zero_or_pos o with h0 | h0
    · omega
    · have := Nat.le_mul_of_pos_left o h0; omega
  have h1 := mag_len_le ho
  obtain ⟨m, hm⟩ : ∃ m, m = 1000 := ⟨_, rfl⟩
  have hxm : l ≤ m := by omega
  have key : (mag (o + 2 ^ j)).length ≤ m + 1 := by
    refine mag_lt.2 ?_
    have h2 := mag_lt.1 (show (mag o).length ≤ m by omega)
    have h3 : 2 ^ j < B ^ m := pow32 j m (by omega)
    have h4 : B ^ (m + 1) = B ^ m * B := Nat.pow_succ _ _
    have h5 : B ^ m * 2 ≤ B ^ m * B := Nat.mul_le_mul_left _ (by decide)
    rw [h4]
    generalize B ^ m * B = z1 at *
    generalize B ^ m = z at *
    generalize 2 ^ j = y at *
    omega
  exact ⟨by omega, by omega⟩
theorem cmpV_le {a b : Nat} : cmpV a b ≤ 0 ↔ a ≤ b := by
  have h1 := @cmpV_pos a b
  constructor
  · intro h
    rcases Nat.lt_or_ge b a with h' | h'
    · have := h1.2 h'; omega
    · exact h'
  · intro h
    rcases Int.lt_or_le 0 (cmpV a b) with h' | h'
    · have := h1.1 h'; omega
    · exact h'
def sqI (x0 : X) (c : D) (x l n : Nat) (st : St) : Prop := ∃ o, o * o ≤ x ∧ x < (o + 2 ^ n) * (o + 2 ^ n) ∧ n ≤ 16 * l + 16 ∧ ((o = 0 ∧ st = sqA x0 c ((n : Int) - 1)) ∨ st = sqB x0 c o ((n : Int) - 1))
theorem one_dg : D.sl 1 [.lit (.int .u32 1)] = eM 1 := by
  show _ = D.sl 1 ((mag 1).map dg)
  rw [mag_small (by decide) (by decide)]; rfl
end Go.Proofs.YtdkgkcnllhcamaaGreat.Ae

/-! Fractions: how many digits they take, and what a quotient in lowest terms is. No condition. -/
namespace Go.Proofs.YtdkgkcnllhcamaaGreat.Dig

/-- How many digits. -/
def ln (n : Nat) : Nat := (mag n).length
theorem ln_mono {a b : Nat} (h : a ≤ b) : ln a ≤ ln b := mag_len_le h
theorem ln_iff {n k : Nat} : ln n ≤ k ↔ n < B ^ k := mag_lt
theorem ln_mul (a b : Nat) : ln (a * b) ≤ ln a + ln b := by
  have h1 := ln_iff.1 (Nat.le_refl (ln a))
  have h2 := ln_iff.1 (Nat.le_refl (ln b))
  refine ln_iff.2 ?_
  rw [Nat.pow_add]
  exact Nat.mul_lt_mul'' h1 h2
theorem ln_add (a b : Nat) : ln (a + b) ≤ max (ln a) (ln b) + 1 := by
  refine ln_iff.2 ?_
  have h1 := ln_iff.1 (Nat.le_max_left (ln a) (ln b))
  have h2 := ln_iff.1 (Nat.le_max_right (ln a) (ln b))
  rw [Nat.pow_succ]
  have h3 : B ^ max (ln a) (ln b) * 2 ≤ B ^ max (ln a) (ln b) * B := Nat.mul_le_mul_left _ (by decide)
  generalize B ^ max (ln a) (ln b) * B = z1 at *
  generalize B ^ max (ln a) (ln b) = z at *
  omega
theorem ln_one : ln 1 = 1 := by unfold ln; rw [mag_small (by decide) (by decide)]; rfl
theorem ln_zero : ln 0 = 0 := by unfold ln; rw [mag_zero]; rfl
theorem ln_pos {n : Nat} (h : 0 < n) : 1 ≤ ln n := by
  rcases Nat.eq_zero_or_pos (ln n) with h0 | h0
  · unfold ln at h0; rw [mag_len_zero] at h0; omega
  · exact h0
theorem ln_i64 {n : Nat} (h : n < 18446744073709551616) : ln n ≤ 2 := ln_iff.2 (by simp only [B]; omega)

theorem natAbs_ediv_le (n g : Int) : (n / g).natAbs ≤ n.natAbs := by
  by_cases hg : g = 0
  · subst hg; simp
  · exact Int.natAbs_ediv_le_natAbs n g

theorem num_le (n d : Int) : (Rat.divInt n d).num.natAbs ≤ n.natAbs := by
  rw [Rat.num_divInt]
  refine Nat.le_trans (natAbs_ediv_le _ _) ?_
  rw [Int.natAbs_mul]
  have : d.sign.natAbs ≤ 1 := by
    rcases Int.lt_trichotomy d 0 with h | h | h
    · rw [Int.sign_eq_neg_one_of_neg h]; decide
    · subst h; decide
    · rw [Int.sign_eq_one_of_pos h]; decide
  calc d.sign.natAbs * n.natAbs ≤ 1 * n.natAbs := Nat.mul_le_mul_right _ this
    _ = n.natAbs := Nat.one_mul _
theorem den_le {n d : Int} (h : d ≠ 0) : (Rat.divInt n d).den ≤ d.natAbs := by
  rw [Rat.den_divInt, if_neg h]
  exact Nat.div_le_self _ _

/-- How many digits a fraction takes. -/
def qsz (q : Rat) : Nat := max (ln q.num.natAbs) (ln q.den)
theorem qsz_num (q : Rat) : ln q.num.natAbs ≤ qsz q := Nat.le_max_left _ _
theorem qsz_den (q : Rat) : ln q.den ≤ qsz q := Nat.le_max_right _ _
theorem qsz_pos (q : Rat) : 1 ≤ qsz q := Nat.le_trans (ln_pos q.den_pos) (qsz_den q)
theorem qsz_divInt {n d : Int} (h : d ≠ 0) : qsz (Rat.divInt n d) ≤ max (ln n.natAbs) (ln d.natAbs) :=
  Nat.max_le.2 ⟨Nat.le_trans (ln_mono (num_le n d)) (Nat.le_max_left _ _), Nat.le_trans (ln_mono (den_le h)) (Nat.le_max_right _ _)⟩
theorem dz (q : Rat) : (q.den : Int) ≠ 0 := by have := q.den_pos; omega
theorem add_divInt (a b : Rat) : a + b = Rat.divInt (a.num * b.den + b.num * a.den) (a.den * b.den) := by
  have := Rat.divInt_add_divInt a.num b.num (dz a) (dz b)
  rw [Rat.num_divInt_den, Rat.num_divInt_den] at this
  exact this
theorem mul_divInt (a b : Rat) : a * b = Rat.divInt (a.num * b.num) (a.den * b.den) := by
  have := Rat.divInt_mul_divInt a.num b.num (d₁ := a.den) (d₂ := b.den)
  rw [Rat.num_divInt_den, Rat.num_divInt_den] at this
  exact this
theorem neg_divInt (a : Rat) : -a = Rat.divInt (-a.num) a.den := by
  have h : Rat.divInt (-a).num (-a).den = -a := Rat.num_divInt_den _
  rw [Rat.neg_num, Rat.neg_den] at h
  exact h.symm
theorem inv_divInt (a : Rat) : a⁻¹ = Rat.divInt a.den a.num := Rat.inv_def a
theorem div_divInt (a b : Rat) : a / b = Rat.divInt (a.num * b.den) (a.den * b.num) := by
  rw [Rat.div_def, inv_divInt]
  have h := Rat.divInt_mul_divInt a.num b.den (d₁ := a.den) (d₂ := b.num)
  rw [Rat.num_divInt_den] at h
  exact h
theorem dd_ne (a b : Rat) : ((a.den : Int) * b.den) ≠ 0 := Int.mul_ne_zero (dz a) (dz b)
theorem ln_na_mul (a b : Int) : ln (a * b).natAbs ≤ ln a.natAbs + ln b.natAbs := by rw [Int.natAbs_mul]; exact ln_mul _ _
theorem ln_na_add (a b : Int) : ln (a + b).natAbs ≤ max (ln a.natAbs) (ln b.natAbs) + 1 := Nat.le_trans (ln_mono (Int.natAbs_add_le a b)) (ln_add _ _)
theorem ln_na_nat (n : Nat) : ln ((n : Int)).natAbs = ln n := by rw [Int.natAbs_natCast]
theorem add_parts (a b : Rat) : ln (a.num * b.den).natAbs ≤ qsz a + qsz b ∧ ln (b.num * a.den).natAbs ≤ qsz a + qsz b ∧ ln (a.num * b.den + b.num * a.den).natAbs ≤ qsz a + qsz b + 1 ∧ ln ((a.den : Int) * b.den).natAbs ≤ qsz a + qsz b := by
  have h1 := ln_na_mul a.num b.den
  have h2 := ln_na_mul b.num a.den
  have h3 := ln_na_add (a.num * b.den) (b.num * a.den)
  have h4 := ln_na_mul (a.den : Int) b.den
  rw [ln_na_nat] at h1 h2 h4
  rw [ln_na_nat] at h4
  have p1 := qsz_num a
  have p2 := qsz_num b
  have p3 := qsz_den a
  have p4 := qsz_den b
  omega
theorem qsz_add (a b : Rat) : qsz (a + b) ≤ qsz a + qsz b + 1 := by
  obtain ⟨h1, h2, h3, h4⟩ := add_parts a b
  have := qsz_divInt (n := a.num * b.den + b.num * a.den) (dd_ne a b)
  rw [← add_divInt] at this
  omega
theorem mul_parts (a b : Rat) : ln (a.num * b.num).natAbs ≤ qsz a + qsz b ∧ ln ((a.den : Int) * b.den).natAbs ≤ qsz a + qsz b := by
  have h1 := ln_na_mul a.num b.num
  have h4 := ln_na_mul (a.den : Int) b.den
  rw [ln_na_nat, ln_na_nat] at h4
  have p1 := qsz_num a
  have p2 := qsz_num b
  have p3 := qsz_den a
  have p4 := qsz_den b
  omega
theorem qsz_mul (a b : Rat) : qsz (a * b) ≤ qsz a + qsz b := by
  obtain ⟨h1, h2⟩ := mul_parts a b
  have := qsz_divInt (n := a.num * b.num) (dd_ne a b)
  rw [← mul_divInt] at this
  omega
theorem qsz_neg (a : Rat) : qsz (-a) = qsz a := by
  unfold qsz
  rw [Rat.neg_num, Rat.neg_den, Int.natAbs_neg]
theorem qsz_sub (a b : Rat) : qsz (a - b) ≤ qsz a + qsz b + 1 := by
  rw [Rat.sub_eq_add_neg]
  have := qsz_add a (-b)
  rw [qsz_neg] at this
  exact this
theorem num_ne {a : Rat} (h : a ≠ 0) : a.num ≠ 0 := fun h' => h (by rw [← Rat.num_divInt_den a, h']; exact Rat.zero_divInt _)
theorem qsz_inv {a : Rat} (h : a ≠ 0) : qsz a⁻¹ ≤ qsz a := by
  rw [inv_divInt]
  have := qsz_divInt (n := a.den) (num_ne h)
  rw [ln_na_nat] at this
  have p1 := qsz_num a
  have p3 := qsz_den a
  omega
theorem qsz_div {a b : Rat} (h : b ≠ 0) : qsz (a / b) ≤ qsz a + qsz b := by
  rw [Rat.div_def]
  have h1 := qsz_mul a b⁻¹
  have h2 := qsz_inv h
  omega

/-- A quotient in lowest terms, by the greatest common divisor. -/
theorem low_pos {a b : Int} (h : 0 < b) : Int.tdiv a (Int.gcd a b) = (Rat.divInt a b).num ∧ Int.tdiv b (Int.gcd a b) = (Rat.divInt a b).den := by
  rw [Rat.num_divInt, Rat.den_divInt, if_neg (by omega), Int.sign_eq_one_of_pos h, Int.one_mul, Int.gcd_comm b a]
  have h1 : (Int.gcd a b : Int) ∣ a := Int.gcd_dvd_left ..
  have h2 : (Int.gcd a b : Int) ∣ b := Int.gcd_dvd_right ..
  refine ⟨Int.tdiv_eq_ediv_of_dvd h1, ?_⟩
  rw [Int.tdiv_eq_ediv_of_dvd h2]
  obtain ⟨m, rfl⟩ : ∃ m : Nat, b = m := ⟨b.natAbs, by omega⟩
  rw [Int.natAbs_natCast, Int.natCast_ediv]
theorem low_neg {a b : Int} (h : b < 0) : Int.tdiv a (-(Int.gcd a b : Int)) = (Rat.divInt a b).num ∧ Int.tdiv b (-(Int.gcd a b : Int)) = (Rat.divInt a b).den := by
  rw [Rat.num_divInt, Rat.den_divInt, if_neg (by omega), Int.sign_eq_neg_one_of_neg h, Int.gcd_comm b a, Int.tdiv_neg, Int.tdiv_neg]
  have h1 : (Int.gcd a b : Int) ∣ a := Int.gcd_dvd_left ..
  have h2 : (Int.gcd a b : Int) ∣ b := Int.gcd_dvd_right ..
  rw [Int.tdiv_eq_ediv_of_dvd h1, Int.tdiv_eq_ediv_of_dvd h2]
  constructor
  · rw [Int.neg_one_mul, Int.neg_ediv_of_dvd h1]
  · obtain ⟨m, rfl⟩ : ∃ m : Nat, b = -(m : Int) := ⟨b.natAbs, by omega⟩
    rw [Int.natAbs_neg, Int.natAbs_natCast, Int.natCast_ediv]
    have h3 : (Int.gcd a (-(m : Int)) : Int) ∣ (m : Int) := by rw [Int.gcd_neg]; exact Int.gcd_dvd_right ..
    rw [Int.neg_ediv_of_dvd h3, Int.neg_neg]
end Go.Proofs.YtdkgkcnllhcamaaGreat.Dig

/-! impl.bigRat: SetFrac, Num, Denom, Neg, Inv, Add, Sub, Mul, Cmp, Sign, SetInt, newBigRat. No condition. -/
namespace Go.Proofs.YtdkgkcnllhcamaaGreat.Ae
open Go Go.RowKit Go.Proofs.YtdkgkcnllhcamaaGreat.Dig
variable {N : NR}

/-- What lies in a bigRat: a fraction in lowest terms, or what new makes. -/
def eBR (q : Rat) : D := .agg [eZ q.num, eZ q.den]
def eBN : D := .agg [eB .new, eB .new]
@[simp] theorem eBR_size (q : Rat) : (eBR q).size = 4 := rfl
@[simp] theorem eBR_agg (q : Rat) : (eBR q).isAgg = true := rfl
@[simp] theorem eBR_lit (q : Rat) : (eBR q).isLit = false := rfl
theorem eBR_inj {a b : Rat} (h : eBR a = eBR b) : a = b := by
  simp only [eBR, D.agg.injEq, List.cons.injEq, and_true] at h
  have h2 := eZ_inj h.2
  exact Rat.ext (eZ_inj h.1) (by omega)
/-- Numbers of moderate length: fewer than 2 to the 39 digits. -/
def MX : Nat := 549755813888
theorem SZ_ln {a : Int} : SZ a ↔ ln a.natAbs < 1099511627776 := Iff.rfl

structure ZZ where
  a : Int
  b : Int
def sfE (p : ZZ) : List Ar × List D := ([.ref 0, .dat (.ptr (eZ p.a)), .dat (.ptr (eZ p.b))], [eBN])
theorem sfE_inj (p q : ZZ) (h : sfE p = sfE q) : p = q := by
  obtain ⟨a, b⟩ := p; obtain ⟨a', b'⟩ := q
  simp only [sfE, Prod.mk.injEq, List.cons.injEq, and_true, true_and, Ar.dat.injEq, D.ptr.injEq] at h
  rw [eZ_inj h.1, eZ_inj h.2]
noncomputable def sfC := ctM sfE (fun p => SZ p.a ∧ SZ p.b ∧ p.b ≠ 0) (fun p => ([.ref 0], [eBR (Rat.divInt p.a p.b)]))
theorem sfC_at (a b : Int) : sfC [.ref 0, .dat (.ptr (eZ a)), .dat (.ptr (eZ b))] [eBN] = ((SZ a ∧ SZ b ∧ b ≠ 0), [.ref 0], [eBR (Rat.divInt a b)]) := ctM_at sfE_inj ⟨a, b⟩
noncomputable def sfTb : List (FuncId × Ct) := [(96, .mut [true, false, false] igC), (87, .data sgDC), (97, .mut [true, false] ngC), (98, .mut [true, false, false] quC)]
theorem sfTb_ok : TbOK N Tryz.prog (tbl sfTb) := tbl_cons (c := .mut [true, false, false] igC) GCD_spec GCD_ok (tbl_cons (c := .data sgDC) SignD_spec Sign_ok (tbl_cons (c := .mut [true, false] ngC) Neg_spec Neg_ok (tbl_cons (c := .mut [true, false, false] quC) Quo_spec Quo_ok tbl_nil)))

@[simp] theorem sfTb1 : tbl sfTb 96 = some (.mut [true, false, false] igC) := rfl
@[simp] theorem sfTb2 : tbl sfTb 87 = some (.data sgDC) := rfl
@[simp] theorem sfTb3 : tbl sfTb 97 = some (.mut [true, false] ngC) := rfl
@[simp] theorem sfTb4 : tbl sfTb 98 = some (.mut [true, false, false] quC) := rfl
theorem SZ_gcd {a b : Int} (hb : SZ b) (h0 : b ≠ 0) : SZ (Int.gcd a b) := by
  refine SZ_le ?_ hb
  rw [Int.natAbs_natCast]
  exact Nat.le_of_dvd (by omega) (Nat.gcd_dvd_right _ _)
set_option maxHeartbeats 4000000 in
theorem SetFrac_spec : SpecM N Tryz.prog 82 sfC := by
  refine rdM (mf := fun f => f == 96 || f == 97 || f == 98) sfTb_ok (fn := Tryz.f82) (by kernel_rfl) rfl (by kernel_rfl) ?_
  rintro ⟨a, b⟩ ⟨ha, hb, h0⟩
  have ha : SZ a := ha
  have hb : SZ b := hb
  have h0 : b ≠ 0 := h0
  refine ⟨by show 3 ≤ 41; decide, rfl, ?_⟩
  simp only [sfE, Tryz.f82, eBN, eBR]
  have hg := SZ_gcd (a := a) hb h0
  have hg0 : Int.gcd a b ≠ 0 := fun h => h0 (Int.gcd_eq_zero_iff.1 h).2
  have c1 := igC_at a b .new
  have c2 := sgDC_at b
  have c3 := ngC_r (Int.gcd a b)
  simp only [ha, hb, hg, and_self, eB_new, i64D] at c1 c2 c3
  by_cases hn : b < 0
  · obtain ⟨e1, e2⟩ := low_neg (a := a) hn
    have c4 := quC_at a (-(Int.gcd a b : Int)) .new
    have c5 := quC_at b (-(Int.gcd a b : Int)) .new
    have hx : -(Int.gcd a b : Int) ≠ 0 := by omega
    rw [Int.sign_eq_neg_one_of_neg hn] at c2
    simp only [ha, hb, SZ_neg, hg, hx, ne_eq, not_false_eq_true, and_self, eB_new, e1, e2] at c4 c5
    generalize (Int.gcd a b : Int) = g at *
    simp [c1, c2, c3, c4, c5, List.idxOf_cons, eB_new]
  · obtain ⟨e1, e2⟩ := low_pos (a := a) (b := b) (by omega)
    have c4 := quC_at a (Int.gcd a b : Int) .new
    have c5 := quC_at b (Int.gcd a b : Int) .new
    have hx : (Int.gcd a b : Int) ≠ 0 := by omega
    rw [Int.sign_eq_one_of_pos (by omega)] at c2
    simp only [ha, hb, hg, hx, ne_eq, not_false_eq_true, and_self, eB_new, e1, e2] at c4 c5
    generalize (Int.gcd a b : Int) = g at *
    simp [c1, c2, c3, c4, c5, List.idxOf_cons, eB_new]
theorem SetFrac_ok : callable Tryz.prog 82 = true := by kernel_rfl

/-! Num, Denom, Sign -/
structure Q1 where
  a : Rat
def pbE (p : Q1) : List D := [.ptr (eBR p.a)]
theorem pbE_inj (p q : Q1) (h : pbE p = pbE q) : p = q := by
  obtain ⟨a⟩ := p; obtain ⟨b⟩ := q
  simp only [pbE, List.cons.injEq, and_true, D.ptr.injEq] at h
  rw [eBR_inj h]
noncomputable def numC := ctD pbE (fun p => qsz p.a < 1099511627776) (fun p => [.ptr (eZ p.a.num)])
theorem numC_at (a : Rat) : numC [.ptr (eBR a)] = (qsz a < 1099511627776, [.ptr (eZ a.num)]) := ctD_at pbE_inj ⟨a⟩
noncomputable def denC := ctD pbE (fun p => qsz p.a < 1099511627776) (fun p => [.ptr (eZ p.a.den)])
theorem denC_at (a : Rat) : denC [.ptr (eBR a)] = (qsz a < 1099511627776, [.ptr (eZ a.den)]) := ctD_at pbE_inj ⟨a⟩
noncomputable def bsgC := ctD pbE (fun p => True) (fun p => [i64D p.a.num.sign])
theorem bsgC_at (a : Rat) : bsgC [.ptr (eBR a)] = (True, [i64D a.num.sign]) := ctD_at pbE_inj ⟨a⟩
theorem SZ_num {q : Rat} (h : qsz q < 1099511627776) : SZ q.num := Nat.lt_of_le_of_lt (qsz_num q) h
theorem SZ_den {q : Rat} (h : qsz q < 1099511627776) : SZ (q.den : Int) := by
  have := qsz_den q
  rw [SZ_ln, Int.natAbs_natCast]
  omega
noncomputable def ndTb : List (FuncId × Ct) := [(86, .mut [true, false] copyC), (87, .data sgDC), (31, .data newC)]
theorem ndTb_ok : TbOK N Tryz.prog (tbl ndTb) := tbl_cons (c := .mut [true, false] copyC) Set_spec Set_ok (tbl_cons (c := .data sgDC) SignD_spec Sign_ok (tbl_cons (c := .data newC) newBigInt_spec newBigInt_ok tbl_nil))

@[simp] theorem ndTb1 : tbl ndTb 86 = some (.mut [true, false] copyC) := rfl
@[simp] theorem ndTb2 : tbl ndTb 87 = some (.data sgDC) := rfl
@[simp] theorem ndTb3 : tbl ndTb 31 = some (.data newC) := rfl
theorem Num_spec : SpecD N Tryz.prog 60 numC := by
  refine rdD (mf := fun f => f == 86) ndTb_ok (fn := Tryz.f60) (by kernel_rfl) rfl (by kernel_rfl) ?_
  rintro ⟨a⟩ ha
  have ha : qsz a < 1099511627776 := ha
  refine ⟨by show 1 ≤ 8; decide, ?_⟩
  simp only [pbE, Tryz.f60, eBR]
  have c1 := copyC_n a.num
  simp only [SZ_num ha] at c1
  simp [c1]
theorem Num_ok : callable Tryz.prog 60 = true := by kernel_rfl
theorem Denom_spec : SpecD N Tryz.prog 61 denC := by
  refine rdD (mf := fun f => f == 86) ndTb_ok (fn := Tryz.f61) (by kernel_rfl) rfl (by kernel_rfl) ?_
  rintro ⟨a⟩ ha
  have ha : qsz a < 1099511627776 := ha
  refine ⟨by show 1 ≤ 14; decide, ?_⟩
  simp only [pbE, Tryz.f61, eBR]
  have c1 := copyC_n a.den
  have c2 := sgDC_at a.den
  have hd := a.den_pos
  rw [Int.sign_eq_one_of_pos (by omega)] at c2
  simp only [SZ_den ha, i64D] at c1 c2
  simp [c1, c2]
theorem Denom_ok : callable Tryz.prog 61 = true := by kernel_rfl
theorem RSign_spec : SpecD N Tryz.prog 91 bsgC := by
  refine rdD (mf := fun f => false) ndTb_ok (fn := Tryz.f91) (by kernel_rfl) rfl (by kernel_rfl) ?_
  rintro ⟨a⟩ _
  refine ⟨by show 1 ≤ 7; decide, ?_⟩
  simp only [pbE, Tryz.f91, eBR]
  have c2 := sgDC_at a.num
  simp only [i64D] at c2 ⊢
  simp [c2]
theorem RSign_ok : callable Tryz.prog 91 = true := by kernel_rfl
end Go.Proofs.YtdkgkcnllhcamaaGreat.Ae

/-! impl.bigRat: Neg, Inv, Add, Sub, Mul, Cmp, SetInt, newBigRat. No condition. -/
namespace Go.Proofs.YtdkgkcnllhcamaaGreat.Ae
open Go Go.RowKit Go.Proofs.YtdkgkcnllhcamaaGreat.Dig
variable {N : NR}

def q1E (p : Q1) : List Ar × List D := ([.ref 0, .dat (.ptr (eBR p.a))], [eBN])
theorem q1E_inj (p q : Q1) (h : q1E p = q1E q) : p = q := by
  obtain ⟨a⟩ := p; obtain ⟨b⟩ := q
  simp only [q1E, Prod.mk.injEq, List.cons.injEq, and_true, true_and, Ar.dat.injEq, D.ptr.injEq] at h
  rw [eBR_inj h]
structure Q2 where
  a : Rat
  b : Rat
def q2E (p : Q2) : List Ar × List D := ([.ref 0, .dat (.ptr (eBR p.a)), .dat (.ptr (eBR p.b))], [eBN])
theorem q2E_inj (p q : Q2) (h : q2E p = q2E q) : p = q := by
  obtain ⟨a, b⟩ := p; obtain ⟨c, d⟩ := q
  simp only [q2E, Prod.mk.injEq, List.cons.injEq, and_true, true_and, Ar.dat.injEq, D.ptr.injEq] at h
  rw [eBR_inj h.1, eBR_inj h.2]
noncomputable def brTb : List (FuncId × Ct) := [(82, .mut [true, false, false] sfC), (60, .data numC), (61, .data denC), (97, .mut [true, false] ngC), (83, .mut [true, false, false] iMulC), (30, .mut [true, false, false] iAddC), (31, .data newC), (92, .data iCmpC)]
theorem brTb_ok : TbOK N Tryz.prog (tbl brTb) := tbl_cons (c := .mut [true, false, false] sfC) SetFrac_spec SetFrac_ok (tbl_cons (c := .data numC) Num_spec Num_ok (tbl_cons (c := .data denC) Denom_spec Denom_ok (tbl_cons (c := .mut [true, false] ngC) Neg_spec Neg_ok (tbl_cons (c := .mut [true, false, false] iMulC) Mul_spec Mul_ok (tbl_cons (c := .mut [true, false, false] iAddC) Add_spec Add_ok (tbl_cons (c := .data newC) newBigInt_spec newBigInt_ok (tbl_cons (c := .data iCmpC) Cmp_spec Cmp_ok tbl_nil)))))))

@[simp] theorem brTb1 : tbl brTb 82 = some (.mut [true, false, false] sfC) := rfl
@[simp] theorem brTb2 : tbl brTb 60 = some (.data numC) := rfl
@[simp] theorem brTb3 : tbl brTb 61 = some (.data denC) := rfl
@[simp] theorem brTb4 : tbl brTb 97 = some (.mut [true, false] ngC) := rfl
@[simp] theorem brTb5 : tbl brTb 83 = some (.mut [true, false, false] iMulC) := rfl
@[simp] theorem brTb6 : tbl brTb 30 = some (.mut [true, false, false] iAddC) := rfl
@[simp] theorem brTb7 : tbl brTb 31 = some (.data newC) := rfl
@[simp] theorem brTb8 : tbl brTb 92 = some (.data iCmpC) := rfl
def brMf : FuncId → Bool := fun f => f == 82 || f == 97 || f == 83 || f == 30 || f == 92
attribute [simp] brMf
@[simp] theorem eBN_size : eBN.size = 4 := rfl
@[simp] theorem eBN_agg : eBN.isAgg = true := rfl
theorem eBN_eq : eBN = .agg [.agg [.lit (.bool false), .lit (.slice none 0 0)], .agg [.lit (.bool false), .lit (.slice none 0 0)]] := rfl
theorem sfC_n (a b : Int) : sfC [.ref 0, .dat (.ptr (eZ a)), .dat (.ptr (eZ b))] [.agg [.agg [.lit (.bool false), .lit (.slice none 0 0)], .agg [.lit (.bool false), .lit (.slice none 0 0)]]] = ((SZ a ∧ SZ b ∧ b ≠ 0), [.ref 0], [eBR (Rat.divInt a b)]) := sfC_at a b
theorem iMulC_n (x y : Int) : iMulC [.ref 0, .dat (.ptr (eZ x)), .dat (.ptr (eZ y))] [.agg [.lit (.bool false), .lit (.slice none 0 0)]] = ((SZ x ∧ SZ y), [.ref 0], [eZ (x * y)]) := iMulC_dd x y .new

noncomputable def bNegC := ctM q1E (fun p => qsz p.a < MX) (fun p => ([.ref 0], [eBR (-p.a)]))
theorem bNegC_at (a : Rat) : bNegC [.ref 0, .dat (.ptr (eBR a))] [eBN] = (qsz a < MX, [.ref 0], [eBR (-a)]) := ctM_at q1E_inj ⟨a⟩
theorem RNeg_spec : SpecM N Tryz.prog 90 bNegC := by
  refine rdM (mf := brMf) brTb_ok (fn := Tryz.f90) (by kernel_rfl) rfl (by kernel_rfl) ?_
  rintro ⟨a⟩ ha
  have ha : qsz a < MX := ha
  unfold MX at ha
  have ha' : qsz a < 1099511627776 := by omega
  refine ⟨by show 2 ≤ 14; decide, rfl, ?_⟩
  have c1 := ngC_n a.num
  have c2 := denC_at a
  have c3 := sfC_at (-a.num) a.den
  rw [← neg_divInt] at c3
  simp only [q1E, Tryz.f90]
  have hd := dz a
  simp only [SZ_num ha', SZ_den ha', SZ_neg, ha', hd, ne_eq, not_false_eq_true, and_self] at c1 c2 c3
  generalize eBR (-a) = r at *
  simp only [eBR] at c2 ⊢
  simp [c1, c2, c3]
theorem RNeg_ok : callable Tryz.prog 90 = true := by kernel_rfl

noncomputable def bInvC := ctM q1E (fun p => qsz p.a < MX ∧ p.a ≠ 0) (fun p => ([.ref 0], [eBR p.a⁻¹]))
theorem bInvC_at (a : Rat) : bInvC [.ref 0, .dat (.ptr (eBR a))] [eBN] = ((qsz a < MX ∧ a ≠ 0), [.ref 0], [eBR a⁻¹]) := ctM_at q1E_inj ⟨a⟩
theorem RInv_spec : SpecM N Tryz.prog 88 bInvC := by
  refine rdM (mf := brMf) brTb_ok (fn := Tryz.f88) (by kernel_rfl) rfl (by kernel_rfl) ?_
  rintro ⟨a⟩ ⟨ha, h0⟩
  have ha : qsz a < MX := ha
  have h0 : a ≠ 0 := h0
  unfold MX at ha
  have ha' : qsz a < 1099511627776 := by omega
  refine ⟨by show 2 ≤ 11; decide, rfl, ?_⟩
  have c1 := numC_at a
  have c2 := denC_at a
  have c3 := sfC_at a.den a.num
  rw [← inv_divInt] at c3
  simp only [q1E, Tryz.f88]
  have hd := num_ne h0
  simp only [SZ_num ha', SZ_den ha', ha', hd, ne_eq, not_false_eq_true, and_self] at c1 c2 c3
  simp [c1, c2, c3]
theorem RInv_ok : callable Tryz.prog 88 = true := by kernel_rfl

noncomputable def bMulC := ctM q2E (fun p => qsz p.a + qsz p.b < MX) (fun p => ([.ref 0], [eBR (p.a * p.b)]))
theorem bMulC_at (a b : Rat) : bMulC [.ref 0, .dat (.ptr (eBR a)), .dat (.ptr (eBR b))] [eBN] = (qsz a + qsz b < MX, [.ref 0], [eBR (a * b)]) := ctM_at q2E_inj ⟨a, b⟩
theorem RMul_spec : SpecM N Tryz.prog 57 bMulC := by
  refine rdM (mf := brMf) brTb_ok (fn := Tryz.f57) (by kernel_rfl) rfl (by kernel_rfl) ?_
  rintro ⟨a, b⟩ ha
  have ha : qsz a + qsz b < MX := ha
  unfold MX at ha
  have ha' : qsz a < 1099511627776 := by omega
  have hb' : qsz b < 1099511627776 := by omega
  obtain ⟨m1, m2⟩ := mul_parts a b
  have s1 : SZ (a.num * b.num) := by rw [SZ_ln]; omega
  have s2 : SZ ((a.den : Int) * b.den) := by rw [SZ_ln]; omega
  refine ⟨by show 3 ≤ 23; decide, rfl, ?_⟩
  have c1 := iMulC_n a.num b.num
  have c2 := denC_at a
  have c3 := denC_at b
  have c4 := iMulC_n a.den b.den
  have c5 := sfC_at (a.num * b.num) ((a.den : Int) * b.den)
  rw [← mul_divInt] at c5
  simp only [q2E, Tryz.f57]
  have hd := dd_ne a b
  simp only [SZ_num ha', SZ_num hb', SZ_den ha', SZ_den hb', s1, s2, ha', hb', hd, ne_eq, not_false_eq_true, and_self] at c1 c2 c3 c4 c5
  generalize eBR (a * b) = r at *
  generalize a.num * b.num = x at *
  generalize (a.den : Int) * b.den = y at *
  simp only [eBR] at c2 c3 ⊢
  simp [c1, c2, c3, c4, c5]
theorem RMul_ok : callable Tryz.prog 57 = true := by kernel_rfl

noncomputable def bAddC := ctM q2E (fun p => qsz p.a + qsz p.b < MX) (fun p => ([.ref 0], [eBR (p.a + p.b)]))
theorem bAddC_at (a b : Rat) : bAddC [.ref 0, .dat (.ptr (eBR a)), .dat (.ptr (eBR b))] [eBN] = (qsz a + qsz b < MX, [.ref 0], [eBR (a + b)]) := ctM_at q2E_inj ⟨a, b⟩
theorem RAdd_spec : SpecM N Tryz.prog 89 bAddC := by
  refine rdM (mf := brMf) brTb_ok (fn := Tryz.f89) (by kernel_rfl) rfl (by kernel_rfl) ?_
  rintro ⟨a, b⟩ ha
  have ha : qsz a + qsz b < MX := ha
  unfold MX at ha
  have ha' : qsz a < 1099511627776 := by omega
  have hb' : qsz b < 1099511627776 := by omega
  obtain ⟨m1, m2, m3, m4⟩ := add_parts a b
  have s1 : SZ (a.num * b.den) := by rw [SZ_ln]; omega
  have s2 : SZ (b.num * a.den) := by rw [SZ_ln]; omega
  have s3 : SZ (a.num * b.den + b.num * a.den) := by rw [SZ_ln]; omega
  have s4 : SZ ((a.den : Int) * b.den) := by rw [SZ_ln]; omega
  refine ⟨by show 3 ≤ 35; decide, rfl, ?_⟩
  have c1 := iMulC_n a.num b.den
  have c2 := denC_at a
  have c3 := denC_at b
  have c4 := iMulC_n b.num a.den
  have c6 := iAddC_zd (a.num * b.den) (b.num * a.den)
  have c7 := iMulC_n a.den b.den
  have c5 := sfC_at (a.num * b.den + b.num * a.den) ((a.den : Int) * b.den)
  rw [← add_divInt] at c5
  simp only [q2E, Tryz.f89]
  have hd := dd_ne a b
  simp only [SZ_num ha', SZ_num hb', SZ_den ha', SZ_den hb', s1, s2, s3, s4, ha', hb', hd, ne_eq, not_false_eq_true, and_self] at c1 c2 c3 c4 c5 c6 c7
  generalize eBR (a + b) = r at *
  generalize a.num * b.den + b.num * a.den = z at *
  generalize a.num * b.den = x at *
  generalize b.num * a.den = x2 at *
  generalize (a.den : Int) * b.den = y at *
  simp only [eBR] at c2 c3 ⊢
  simp [c1, c2, c3, c4, c5, c6, c7]
theorem RAdd_ok : callable Tryz.prog 89 = true := by kernel_rfl

noncomputable def bSubC := ctM q2E (fun p => qsz p.a + qsz p.b < MX) (fun p => ([.ref 0], [eBR (p.a - p.b)]))
theorem bSubC_at (a b : Rat) : bSubC [.ref 0, .dat (.ptr (eBR a)), .dat (.ptr (eBR b))] [eBN] = (qsz a + qsz b < MX, [.ref 0], [eBR (a - b)]) := ctM_at q2E_inj ⟨a, b⟩
noncomputable def bsTb : List (FuncId × Ct) := [(90, .mut [true, false] bNegC), (89, .mut [true, false, false] bAddC)]
theorem bsTb_ok : TbOK N Tryz.prog (tbl bsTb) := tbl_cons (c := .mut [true, false] bNegC) RNeg_spec RNeg_ok (tbl_cons (c := .mut [true, false, false] bAddC) RAdd_spec RAdd_ok tbl_nil)

@[simp] theorem bsTb1 : tbl bsTb 90 = some (.mut [true, false] bNegC) := rfl
@[simp] theorem bsTb2 : tbl bsTb 89 = some (.mut [true, false, false] bAddC) := rfl
theorem RSub_spec : SpecM N Tryz.prog 64 bSubC := by
  refine rdM (mf := fun f => f == 90 || f == 89) bsTb_ok (fn := Tryz.f64) (by kernel_rfl) rfl (by kernel_rfl) ?_
  rintro ⟨a, b⟩ ha
  have ha : qsz a + qsz b < MX := ha
  have hb : qsz b < MX := by omega
  refine ⟨by show 3 ≤ 13; decide, rfl, ?_⟩
  have c1 := bNegC_at b
  have c2 := bAddC_at a (-b)
  rw [← Rat.sub_eq_add_neg, qsz_neg] at c2
  simp only [ha, hb, eBN_eq] at c1 c2
  simp only [q2E, Tryz.f64, eBN_eq]
  simp [c1, c2]
theorem RSub_ok : callable Tryz.prog 64 = true := by kernel_rfl

structure Q2c where
  a : Rat
  b : Rat
def bcE (p : Q2c) : List D := [.ptr (eBR p.a), .ptr (eBR p.b)]
theorem bcE_inj (p q : Q2c) (h : bcE p = bcE q) : p = q := by
  obtain ⟨a, b⟩ := p; obtain ⟨c, d⟩ := q
  simp only [bcE, List.cons.injEq, and_true, D.ptr.injEq] at h
  rw [eBR_inj h.1, eBR_inj h.2]
/-- How two fractions compare. -/
def qcmp (a b : Rat) : Int := (a.num * b.den - b.num * a.den).sign
noncomputable def bCmpC := ctD bcE (fun p => qsz p.a + qsz p.b < MX) (fun p => [i64D (qcmp p.a p.b)])
theorem bCmpC_at (a b : Rat) : bCmpC [.ptr (eBR a), .ptr (eBR b)] = (qsz a + qsz b < MX, [i64D (qcmp a b)]) := ctD_at bcE_inj ⟨a, b⟩
theorem RCmp_spec : SpecD N Tryz.prog 67 bCmpC := by
  refine rdD (mf := brMf) brTb_ok (fn := Tryz.f67) (by kernel_rfl) rfl (by kernel_rfl) ?_
  rintro ⟨a, b⟩ ha
  have ha : qsz a + qsz b < MX := ha
  unfold MX at ha
  have ha' : qsz a < 1099511627776 := by omega
  have hb' : qsz b < 1099511627776 := by omega
  obtain ⟨m1, m2, m3, m4⟩ := add_parts a b
  have s1 : SZ (a.num * b.den) := by rw [SZ_ln]; omega
  have s2 : SZ (b.num * a.den) := by rw [SZ_ln]; omega
  refine ⟨by show 2 ≤ 20; decide, ?_⟩
  have c1 := iMulC_n a.num b.den
  have c2 := denC_at a
  have c3 := denC_at b
  have c4 := iMulC_n b.num a.den
  have c6 := iCmpC_at (a.num * b.den) (b.num * a.den)
  simp only [bcE, Tryz.f67, qcmp]
  simp only [SZ_num ha', SZ_num hb', SZ_den ha', SZ_den hb', s1, s2, ha', hb', ne_eq, not_false_eq_true, and_self, i64D] at c1 c2 c3 c4 c6 ⊢
  generalize (a.num * b.den - b.num * a.den).sign = r at *
  generalize a.num * b.den = x at *
  generalize b.num * a.den = x2 at *
  simp only [eBR] at c2 c3 ⊢
  simp [c1, c2, c3, c4, c6]
theorem RCmp_ok : callable Tryz.prog 67 = true := by kernel_rfl

def siE (p : Z1) : List Ar × List D := ([.ref 0, .dat (.ptr (eZ p.a))], [eBN])
theorem siE_inj (p q : Z1) (h : siE p = siE q) : p = q := by
  obtain ⟨a⟩ := p; obtain ⟨b⟩ := q
  simp only [siE, Prod.mk.injEq, List.cons.injEq, and_true, true_and, Ar.dat.injEq, D.ptr.injEq] at h
  rw [eZ_inj h]
noncomputable def siC := ctM siE (fun p => SZ p.a) (fun p => ([.ref 0], [eBR (p.a : Rat)]))
theorem siC_at (a : Int) : siC [.ref 0, .dat (.ptr (eZ a))] [eBN] = (SZ a, [.ref 0], [eBR (a : Rat)]) := ctM_at siE_inj ⟨a⟩
theorem SetInt_spec : SpecM N Tryz.prog 62 siC := by
  refine rdM (mf := brMf) brTb_ok (fn := Tryz.f62) (by kernel_rfl) rfl (by kernel_rfl) ?_
  rintro ⟨a⟩ ha
  have ha : SZ a := ha
  refine ⟨by show 2 ≤ 9; decide, rfl, ?_⟩
  have c1 := newC_at 1
  have c2 := sfC_at a 1
  have h1 : I64 1 := by unfold I64; omega
  have h2 := SZ_I64 h1
  have e : Rat.divInt a 1 = (a : Rat) := by rw [Rat.divInt_eq_div]; grind
  rw [e] at c2
  simp only [ha, h1, h2, i64D, and_self] at c1 c2
  simp only [siE, Tryz.f62]
  simp at c2
  simp [c1, c2]
theorem SetInt_ok : callable Tryz.prog 62 = true := by kernel_rfl

noncomputable def nbrC := ctD iiE (fun p => I64 p.a ∧ I64 p.b ∧ p.b ≠ 0) (fun p => [.ptr (eBR (Rat.divInt p.a p.b))])
theorem nbrC_at (a b : Int) : nbrC [i64D a, i64D b] = ((I64 a ∧ I64 b ∧ b ≠ 0), [.ptr (eBR (Rat.divInt a b))]) := ctD_at iiE_inj ⟨a, b⟩
theorem newBigRat_spec : SpecD N Tryz.prog 84 nbrC := by
  refine rdD (mf := brMf) brTb_ok (fn := Tryz.f84) (by kernel_rfl) rfl (by kernel_rfl) ?_
  rintro ⟨a, b⟩ ⟨ha, hb, h0⟩
  have ha : I64 a := ha
  have hb : I64 b := hb
  have h0 : b ≠ 0 := h0
  refine ⟨by show 2 ≤ 11; decide, ?_⟩
  have c1 := newC_at a
  have c2 := newC_at b
  have c3 := sfC_n a b
  simp only [ha, hb, h0, SZ_I64 ha, SZ_I64 hb, i64D, and_self, ne_eq, not_false_eq_true] at c1 c2 c3
  simp only [iiE, i64D, Tryz.f84]
  simp [c1, c2, c3]
theorem newBigRat_ok : callable Tryz.prog 84 = true := by kernel_rfl
end Go.Proofs.YtdkgkcnllhcamaaGreat.Ae

/-! The reference's fractions: what they are worth. No condition. -/
namespace Go.Proofs.YtdkgkcnllhcamaaGreat.Ae
open Go Go.RowKit Go.Proofs.YtdkgkcnllhcamaaGreat.Dig

def SR.val (r : SR) : Rat := Rat.divInt r.num r.den
/-- A fraction of the reference: of moderate size, great ones in lowest terms. -/
def WV (r : SR) : Prop := WR r ∧ ∀ p q, r = .big p q → Int.gcd p q = 1
theorem WR_den {r : SR} (h : WR r) : 0 < r.den := (WR_SZ h).2.2
/-- In lowest terms. -/
theorem low_div {n d : Int} (h : 0 < d) : n / (Int.gcd n d : Int) = (Rat.divInt n d).num ∧ d / (Int.gcd n d : Int) = (Rat.divInt n d).den := by
  obtain ⟨e1, e2⟩ := low_pos (a := n) h
  have h1 : (Int.gcd n d : Int) ∣ n := Int.gcd_dvd_left ..
  have h2 : (Int.gcd n d : Int) ∣ d := Int.gcd_dvd_right ..
  rw [Int.tdiv_eq_ediv_of_dvd h1] at e1
  rw [Int.tdiv_eq_ediv_of_dvd h2] at e2
  exact ⟨e1, e2⟩
theorem low_k {n d : Int} (h : 0 < d) : ∃ k : Int, 0 < k ∧ n = k * (Rat.divInt n d).num ∧ d = k * (Rat.divInt n d).den := by
  obtain ⟨e1, e2⟩ := low_div (n := n) h
  refine ⟨Int.gcd n d, ?_, ?_, ?_⟩
  · have : Int.gcd n d ≠ 0 := fun h0 => by have := (Int.gcd_eq_zero_iff.1 h0).2; omega
    omega
  · rw [← e1, Int.mul_ediv_cancel' (Int.gcd_dvd_left ..)]
  · rw [← e2, Int.mul_ediv_cancel' (Int.gcd_dvd_right ..)]
theorem val_k {r : SR} (h : WR r) : ∃ k : Int, 0 < k ∧ r.num = k * r.val.num ∧ r.den = k * r.val.den := low_k (WR_den h)
theorem gcd_red (q : Rat) : Int.gcd q.num q.den = 1 := q.reduced
theorem packR_ok {p q : Int} (h0 : 0 < q) (hp : SZ p) (hq : SZ q) (hg : Int.gcd p q = 1) : WV (packR p q) ∧ (packR p q).val = Rat.divInt p q := by
  unfold packR
  split
  · rename_i h
    exact ⟨⟨⟨by omega, h0, by omega⟩, fun _ _ e => by cases e⟩, rfl⟩
  · exact ⟨⟨⟨hp, hq, h0⟩, fun _ _ e => by cases e; exact hg⟩, rfl⟩
theorem packR_low {n d : Int} (h : 0 < d) (hn : SZ n) (hd : SZ d) : WV (packR (n / (Int.gcd n d : Int)) (d / (Int.gcd n d : Int))) ∧ (packR (n / (Int.gcd n d : Int)) (d / (Int.gcd n d : Int))).val = Rat.divInt n d := by
  obtain ⟨e1, e2⟩ := low_div (n := n) h
  rw [e1, e2]
  have h1 := packR_ok (p := (Rat.divInt n d).num) (q := (Rat.divInt n d).den) (by have := (Rat.divInt n d).den_pos; omega) (SZ_le (num_le n d) hn) (SZ_le (by rw [Int.natAbs_natCast]; exact den_le (by omega)) hd) (gcd_red _)
  rw [Rat.num_divInt_den] at h1
  exact h1
theorem ofR_ok {n d : Int} (h0 : 0 < d) (hn : I64 n) (hd : I64 d) : WV (ofR n d) ∧ (ofR n d).val = Rat.divInt n d := by
  unfold ofR
  split
  · rename_i h
    exact ⟨⟨⟨by omega, h0, by omega⟩, fun _ _ e => by cases e⟩, rfl⟩
  · exact packR_low h0 (SZ_I64 hn) (SZ_I64 hd)
theorem bigR_ok {n d : Int} (h0 : d ≠ 0) (hn : SZ n) (hd : SZ d) : WV (bigR n d) ∧ (bigR n d).val = Rat.divInt n d := by
  unfold bigR
  split
  · rename_i h
    subst h
    refine ⟨⟨⟨by decide, by decide, by decide⟩, fun _ _ e => by cases e⟩, ?_⟩
    show Rat.divInt 0 1 = _
    rw [Rat.zero_divInt, Rat.zero_divInt]
  · split
    · rename_i h
      have e : Int.gcd n d = Int.gcd (-n) (-d) := by rw [Int.neg_gcd, Int.gcd_neg]
      rw [e]
      have := packR_low (n := -n) (d := -d) (by omega) (SZ_neg.2 hn) (SZ_neg.2 hd)
      rw [Rat.neg_divInt_neg] at this
      exact this
    · exact packR_low (by omega) hn hd
/-- How many digits it takes. -/
theorem rep_sz {r : SR} (h : WV r) : ln r.num.natAbs ≤ qsz r.val ∧ ln r.den.natAbs ≤ qsz r.val := by
  have h1 := qsz_pos r.val
  have one : ∀ x : Nat, x < 2147483648 → ln x ≤ 1 := fun x hx => ln_iff.2 (by simp only [B]; omega)
  cases r with
  | small n d =>
    obtain ⟨⟨x1, x2, x3⟩, _⟩ := h
    have a1 : ln (SR.small n d).num.natAbs ≤ 1 := one _ x1
    have a2 : ln (SR.small n d).den.natAbs ≤ 1 := one _ (by show d.natAbs < _; omega)
    omega
  | lit n d =>
    obtain ⟨⟨x1, x2, x3⟩, _⟩ := h
    have a1 : ln (SR.lit n d).num.natAbs ≤ 1 := one _ x1
    have a2 : ln (SR.lit n d).den.natAbs ≤ 1 := one _ (by show d.natAbs < _; omega)
    omega
  | big p q =>
    obtain ⟨⟨x1, x2, x3⟩, hg⟩ := h
    have hg := hg p q rfl
    obtain ⟨e1, e2⟩ := low_div (n := p) x3
    rw [hg] at e1 e2
    simp at e1 e2
    have v1 : (SR.big p q).val = Rat.divInt p q := rfl
    have v2 : (SR.big p q).num = p := rfl
    have v3 : (SR.big p q).den = q := rfl
    rw [v1, v2, v3]
    have p1 := qsz_num (Rat.divInt p q)
    have p2 := qsz_den (Rat.divInt p q)
    rw [← e1] at p1
    refine ⟨p1, ?_⟩
    rw [show q.natAbs = (Rat.divInt p q).den by omega]
    exact p2
theorem neg_val (r : SR) : (negR r).val = -r.val := by
  unfold SR.val
  rw [negR_num, negR_den, Rat.neg_divInt]
theorem neg_WV {r : SR} (h : WV r) : WV (negR r) := by
  refine ⟨negR_WR h.1, fun p q e => ?_⟩
  cases r with
  | small n d => cases e
  | lit n d => cases e
  | big p' q' =>
    simp only [negR, SR.big.injEq] at e
    obtain ⟨rfl, rfl⟩ := e
    have := h.2 _ _ rfl
    rw [Int.neg_gcd]
    exact this
theorem SZ_of {a : Int} {k : Nat} (h : ln a.natAbs ≤ k) (hk : k < 1099511627776) : SZ a := by rw [SZ_ln]; omega
/-- The products and sums that a sum asks for. -/
theorem cross_sz {a b : SR} (ha : WV a) (hb : WV b) (h : qsz a.val + qsz b.val < MX) :
    SZ (a.num * b.den) ∧ SZ (b.num * a.den) ∧ SZ (a.num * b.den + b.num * a.den) ∧ SZ (a.num * b.den - b.num * a.den) ∧ SZ (a.den * b.den) ∧ SZ (a.num * b.num) ∧ SZ (a.den * b.num) := by
  unfold MX at h
  obtain ⟨a1, a2⟩ := rep_sz ha
  obtain ⟨b1, b2⟩ := rep_sz hb
  have m1 := ln_na_mul a.num b.den
  have m2 := ln_na_mul b.num a.den
  have m3 := ln_na_add (a.num * b.den) (b.num * a.den)
  have m4 := ln_na_add (a.num * b.den) (-(b.num * a.den))
  rw [Int.natAbs_neg, ← Int.sub_eq_add_neg] at m4
  have m5 := ln_na_mul a.den b.den
  have m6 := ln_na_mul a.num b.num
  have m7 := ln_na_mul a.den b.num
  refine ⟨SZ_of m1 ?_, SZ_of m2 ?_, SZ_of m3 ?_, SZ_of m4 ?_, SZ_of m5 ?_, SZ_of m6 ?_, SZ_of m7 ?_⟩ <;> omega
theorem I64_prod {n d : Int} (hn : n.natAbs < 2147483648) (hd : d.natAbs < 2147483648) : (n * d).natAbs ≤ 4611686014132420609 := by
  rw [Int.natAbs_mul]
  have := Nat.mul_le_mul (show n.natAbs ≤ 2147483647 by omega) (show d.natAbs ≤ 2147483647 by omega)
  omega
theorem not_big {r : SR} (h : WR r) (hb : r.isBig = false) : r.num.natAbs < 2147483648 ∧ 0 < r.den ∧ r.den.natAbs < 2147483648 := by
  cases r with
  | small n d => obtain ⟨x1, x2, x3⟩ := h; exact ⟨x1, x2, by show d.natAbs < _; omega⟩
  | lit n d => obtain ⟨x1, x2, x3⟩ := h; exact ⟨x1, x2, by show d.natAbs < _; omega⟩
  | big p q => cases hb
theorem den_val_ne {r : SR} (h : WR r) : r.den ≠ 0 := by have := WR_den h; omega
theorem add_ok {a b : SR} (ha : WV a) (hb : WV b) (h : qsz a.val + qsz b.val < MX) : WV (addR a b) ∧ (addR a b).val = a.val + b.val := by
  obtain ⟨s1, s2, s3, s4, s5, s6, s7⟩ := cross_sz ha hb h
  have hv : a.val + b.val = Rat.divInt (a.num * b.den + b.num * a.den) (a.den * b.den) := Rat.divInt_add_divInt _ _ (den_val_ne ha.1) (den_val_ne hb.1)
  have hd := Int.mul_pos (WR_den ha.1) (WR_den hb.1)
  rw [hv]
  unfold addR
  split
  · exact bigR_ok (by omega) s3 s5
  · rename_i hbig
    simp only [Bool.or_eq_true, not_or, Bool.not_eq_true] at hbig
    obtain ⟨x1, x2, x3⟩ := not_big ha.1 hbig.1
    obtain ⟨y1, y2, y3⟩ := not_big hb.1 hbig.2
    have p1 := I64_prod x1 y3
    have p2 := I64_prod y1 x3
    have p3 := I64_prod x3 y3
    exact ofR_ok hd (by unfold I64; omega) (by unfold I64; omega)
theorem mul_ok {a b : SR} (ha : WV a) (hb : WV b) (h : qsz a.val + qsz b.val < MX) : WV (mulR a b) ∧ (mulR a b).val = a.val * b.val := by
  obtain ⟨s1, s2, s3, s4, s5, s6, s7⟩ := cross_sz ha hb h
  have hv : a.val * b.val = Rat.divInt (a.num * b.num) (a.den * b.den) := Rat.divInt_mul_divInt _ _
  have hd := Int.mul_pos (WR_den ha.1) (WR_den hb.1)
  rw [hv]
  unfold mulR
  split
  · exact bigR_ok (by omega) s6 s5
  · rename_i hbig
    simp only [Bool.or_eq_true, not_or, Bool.not_eq_true] at hbig
    obtain ⟨x1, x2, x3⟩ := not_big ha.1 hbig.1
    obtain ⟨y1, y2, y3⟩ := not_big hb.1 hbig.2
    have p1 := I64_prod x1 y1
    have p3 := I64_prod x3 y3
    exact ofR_ok hd (by unfold I64; omega) (by unfold I64; omega)
theorem sub_ok {a b : SR} (ha : WV a) (hb : WV b) (h : qsz a.val + qsz b.val < MX) : WV (subR a b) ∧ (subR a b).val = a.val - b.val := by
  have := add_ok ha (neg_WV hb) (by rw [neg_val, qsz_neg]; exact h)
  rw [neg_val, ← Rat.sub_eq_add_neg] at this
  exact this
theorem val_zero {r : SR} (h : WR r) : r.val = 0 ↔ r.num = 0 := by
  obtain ⟨k, h1, h2, h3⟩ := val_k h
  constructor
  · intro h0; rw [h2, h0]; simp
  · intro h0
    unfold SR.val
    rw [h0, Rat.zero_divInt]
theorem div_ok {a b : SR} (ha : WV a) (hb : WV b) (h0 : b.val ≠ 0) (h : qsz a.val + qsz b.val < MX) : WV (divR a b) ∧ (divR a b).val = a.val / b.val := by
  have hn : b.num ≠ 0 := fun h' => h0 ((val_zero hb.1).2 h')
  have inv : b.val⁻¹ = Rat.divInt b.den b.num := by unfold SR.val; exact Rat.inv_divInt _ _
  have small : ∀ n d : Int, b.num = n → b.den = d → n.natAbs < 2147483648 → 0 < d → d < 2147483648 → WV (invR n d) ∧ (invR n d).val = b.val⁻¹ := by
    intro n d e1 e2 x1 x2 x3
    rw [inv, e1, e2]
    rw [e1] at hn
    unfold invR
    split
    · refine ⟨⟨⟨by omega, by omega, by omega⟩, fun _ _ e => by cases e⟩, ?_⟩
      show Rat.divInt (-d) (-n) = _
      rw [Rat.neg_divInt_neg]
    · exact ⟨⟨⟨by omega, by omega, by omega⟩, fun _ _ e => by cases e⟩, rfl⟩
  have hq := qsz_inv h0
  have way : ∀ c : SR, WV c → c.val = b.val⁻¹ → WV (mulR a c) ∧ (mulR a c).val = a.val / b.val := by
    intro c hc he
    have := mul_ok ha hc (by rw [he]; omega)
    rw [he, ← Rat.div_def] at this
    exact this
  cases b with
  | small n d =>
    obtain ⟨x1, x2, x3⟩ := hb.1
    obtain ⟨w1, w2⟩ := small n d rfl rfl x1 x2 x3
    exact way _ w1 w2
  | lit n d =>
    obtain ⟨x1, x2, x3⟩ := hb.1
    obtain ⟨w1, w2⟩ := small n d rfl rfl x1 x2 x3
    exact way _ w1 w2
  | big p q =>
    obtain ⟨s1, s2, s3, s4, s5, s6, s7⟩ := cross_sz ha hb h
    have hv : a.val / (SR.big p q).val = Rat.divInt (a.num * q) (a.den * p) := by
      rw [Rat.div_def, inv]
      exact Rat.divInt_mul_divInt _ _
    rw [hv]
    exact bigR_ok (Int.mul_ne_zero (den_val_ne ha.1) hn) s1 s7
theorem sign_val {r : SR} (h : WR r) : r.num.sign = r.val.num.sign := by
  obtain ⟨k, h1, h2, h3⟩ := val_k h
  rw [h2, Int.sign_mul, Int.sign_eq_one_of_pos h1, Int.one_mul]
theorem cmp_val {a b : SR} (ha : WR a) (hb : WR b) : (a.num * b.den - b.num * a.den).sign = qcmp a.val b.val := by
  obtain ⟨k, h1, h2, h3⟩ := val_k ha
  obtain ⟨l, l1, l2, l3⟩ := val_k hb
  unfold qcmp
  have e : a.num * b.den - b.num * a.den = (k * l) * (a.val.num * b.val.den - b.val.num * a.val.den) := by
    rw [h2, h3, l2, l3]
    grind
  rw [e, Int.sign_mul, Int.sign_eq_one_of_pos (Int.mul_pos h1 l1), Int.one_mul]
theorem floor_val {r : SR} (h : WR r) : r.num / r.den = r.val.floor := by
  obtain ⟨k, h1, h2, h3⟩ := val_k h
  rw [Rat.floor_def]
  conv => lhs; rw [h2, h3]
  exact Int.mul_ediv_mul_of_pos _ _ h1
/-- A Q out of a fraction. -/
def oq (q : Rat) : Int × Int × Bool := if q.num.natAbs ≤ 1000000000000000000 ∧ q.den ≤ 1000000000000000000 then (q.num, q.den, true) else (0, 0, false)
theorem qOf_val {r : SR} (h : WV r) : qOfR r = oq r.val := by
  have small : ∀ n d : Int, r.num = n → r.den = d → n.natAbs < 2147483648 → 0 < d → d < 2147483648 → (n / (Int.gcd n d : Int), d / (Int.gcd n d : Int), true) = oq r.val := by
    intro n d e1 e2 x1 x2 x3
    obtain ⟨k1, k2⟩ := low_div (n := n) x2
    have v : r.val = Rat.divInt n d := by unfold SR.val; rw [e1, e2]
    rw [v, k1, k2]
    unfold oq
    have n1 := num_le n d
    have n2 := den_le (n := n) (d := d) (by omega)
    rw [if_pos ⟨by omega, by omega⟩]
  cases r with
  | small n d =>
    obtain ⟨x1, x2, x3⟩ := h.1
    exact small n d rfl rfl x1 x2 x3
  | lit n d =>
    obtain ⟨x1, x2, x3⟩ := h.1
    exact small n d rfl rfl x1 x2 x3
  | big p q =>
    obtain ⟨⟨x1, x2, x3⟩, hg⟩ := h
    have hg := hg p q rfl
    obtain ⟨e1, e2⟩ := low_div (n := p) x3
    rw [hg] at e1 e2
    simp at e1 e2
    have v1 : (SR.big p q).val = Rat.divInt p q := rfl
    rw [v1]
    unfold qOfR oq
    simp only
    rw [← e1, ← e2]
    have : (q.natAbs ≤ 1000000000000000000) ↔ (Rat.divInt p q).den ≤ 1000000000000000000 := by omega
    simp only [this]
end Go.Proofs.YtdkgkcnllhcamaaGreat.Ae

/-! The reference's fractions as opaque numbers. No condition. -/
namespace Go.Proofs.YtdkgkcnllhcamaaGreat.Ae
open Go Go.RowKit Go.Proofs.YtdkgkcnllhcamaaGreat.Dig

mutual
/-- No opaque number is in it. -/
def D.pl : D → Bool
  | .lit _ => true
  | .num _ _ => false
  | .agg ds => D.pls ds
  | .sl _ xs => D.pls xs
  | .ptr d => D.pl d
def D.pls : List D → Bool
  | [] => true
  | d :: ds => D.pl d && D.pls ds
end
theorem pls_at : ∀ (ds : List D) (i : Nat) (d : D), D.pls ds = true → ds[i]? = some d → d.pl = true
  | [], i, d, _, h => by simp at h
  | x :: ds, 0, d, hp, h => by
    simp at h
    subst h
    simp only [D.pls, Bool.and_eq_true] at hp
    exact hp.1
  | x :: ds, i + 1, d, hp, h => by
    simp only [D.pls, Bool.and_eq_true] at hp
    exact pls_at ds i d hp.2 (by simpa using h)
theorem Rep.plain {N N' : NR} {F : Nat → Prop} {w : World} {d : D} {cs : List Value} (h : Rep N F w d cs) (hp : d.pl = true) : Rep N' F w d cs := by
  induction h with
  | lit h => exact .lit h
  | num h => simp [D.pl] at hp
  | agg hl h ih =>
    simp only [D.pl] at hp
    exact .agg hl (fun i d cs h1 h2 => ih i d cs h1 h2 (pls_at _ i d hp h1))
  | sl A c es hc hm ha h ih =>
    simp only [D.pl] at hp
    exact .sl A c es hc hm ha (fun i d h1 => ih i d h1 (pls_at _ i d hp h1))
  | ptr b off es hb hc h ih =>
    simp only [D.pl] at hp
    exact .ptr b off es hb hc (ih hp)
def NN : NR := ⟨fun _ _ _ _ _ => False, fun h => h.elim, fun h => h.elim, fun _ h => h.elim⟩
/-- A number of the kind 1 is a fraction of the reference with that worth. -/
def NF : NR where
  R k F w q cs := k = 1 ∧ ∃ r, WV r ∧ r.val = q ∧ Rep NN F w (eR r) cs
  len := by
    rintro k F w q cs ⟨rfl, r, _, _, h⟩
    rw [h.len, eR_size]; rfl
  one := by
    rintro k F w q cs ⟨rfl, r, _, _, h⟩
    exact h.one
  mono := by
    rintro k F F' w w' q cs hF ⟨rfl, r, h1, h2, h⟩
    exact ⟨rfl, r, h1, h2, h.mono hF⟩
theorem pls_dg : ∀ l : List Nat, D.pls (l.map dg) = true
  | [] => rfl
  | x :: l => by simp only [List.map_cons, D.pls, pls_dg l, dg, D.pl, Bool.and_self]
theorem pl_eZ (z : Int) : (eZ z).pl = true := by
  simp only [eZ, eM, eW, D.pl, D.pls, pls_dg, Bool.and_self]
theorem pl_eR (r : SR) : (eR r).pl = true := by
  cases r <;> simp [eR, D.pl, D.pls, i64D, pl_eZ]

inductive Cv : D → D → Prop
  | same (d : D) (h : ∀ k q, d ≠ .num k q) : Cv d d
  | num (r : SR) (h : WV r) : Cv (.num 1 r.val) (eR r)
def CvL : List D → List D → Prop
  | [], [] => True
  | x :: a, y :: b => Cv x y ∧ CvL a b
  | _, _ => False
theorem cv_in {F : Nat → Prop} {w : World} {d : D} {v : Value} (h : RepV NF F w d v) : ∃ d', Cv d d' ∧ RepV NF F w d' v := by
  cases d with
  | num k q =>
    obtain ⟨cs, hr, hv⟩ := h
    cases hr with
    | num hr =>
      obtain ⟨rfl, r, h1, rfl, h3⟩ := hr
      refine ⟨eR r, .num r h1, cs, h3.plain (pl_eR r), ?_⟩
      rw [hv]
      unfold mkV
      rw [eR_isAgg]
      rfl
  | _ => exact ⟨_, .same _ (fun k q e => by cases e), h⟩
theorem cv_out {F : Nat → Prop} {w : World} {d d' : D} {v : Value} (hc : Cv d d') (h : RepV NF F w d' v) : RepV NF F w d v := by
  cases hc with
  | same _ _ => exact h
  | num r hw =>
    obtain ⟨cs, hr, hv⟩ := h
    refine ⟨cs, .num ⟨rfl, r, hw, rfl, hr.plain (pl_eR r)⟩, ?_⟩
    rw [hv]
    unfold mkV
    rw [eR_isAgg]
    rfl
theorem cvL_in {F : Nat → Prop} {w : World} : ∀ (ds : List D) (vs : List Value), RepVs NF F w ds vs → ∃ ds', CvL ds ds' ∧ RepVs NF F w ds' vs
  | [], vs, h => ⟨[], trivial, h⟩
  | d :: ds, [], h => by have := h.1; simp at this
  | d :: ds, v :: vs, h => by
    obtain ⟨d', c1, r1⟩ := cv_in (h.2 0 d v rfl rfl)
    obtain ⟨ds', c2, r2⟩ := cvL_in ds vs ⟨by simpa using h.1, fun i d v h1 h2 => h.2 (i + 1) d v (by simpa using h1) (by simpa using h2)⟩
    refine ⟨d' :: ds', ⟨c1, c2⟩, by simp only [List.length_cons]; rw [r2.1], fun i e u h1 h2 => ?_⟩
    cases i with
    | zero =>
      simp only [List.getElem?_cons_zero, Option.some.injEq] at h1 h2
      subst h1 h2
      exact r1
    | succ i => exact r2.2 i e u (by simpa using h1) (by simpa using h2)
theorem cvL_out {F : Nat → Prop} {w : World} : ∀ (ds ds' : List D) (vs : List Value), CvL ds ds' → RepVs NF F w ds' vs → RepVs NF F w ds vs
  | [], [], vs, _, h => h
  | d :: ds, d' :: ds', [], _, h => by have := h.1; simp at this
  | d :: ds, d' :: ds', v :: vs, hc, h => by
    have r1 := cv_out hc.1 (h.2 0 d' v rfl rfl)
    have r2 := cvL_out ds ds' vs hc.2 ⟨by simpa using h.1, fun i d v h1 h2 => h.2 (i + 1) d v (by simpa using h1) (by simpa using h2)⟩
    refine ⟨by simp only [List.length_cons]; rw [r2.1], fun i e u h1 h2 => ?_⟩
    cases i with
    | zero =>
      simp only [List.getElem?_cons_zero, Option.some.injEq] at h1 h2
      subst h1 h2
      exact r1
    | succ i => exact r2.2 i e u (by simpa using h1) (by simpa using h2)
  | [], _ :: _, _, hc, _ => hc.elim
  | _ :: _, [], _, hc, _ => hc.elim
theorem cvR_out {F : Nat → Prop} {w : World} {ds ds' : List D} {v : Value} (hc : CvL ds ds') (h : RepRes NF F w ds' v) : RepRes NF F w ds v := by
  cases ds with
  | nil =>
    cases ds' with
    | nil => exact h
    | cons => exact hc.elim
  | cons d t =>
    cases ds' with
    | nil => exact hc.elim
    | cons d' t' =>
      cases t with
      | nil =>
        cases t' with
        | nil => exact cv_out hc.1 h
        | cons => exact hc.2.elim
      | cons e t =>
        cases t' with
        | nil => exact hc.2.elim
        | cons e' t' =>
          obtain ⟨vs, h1, h2⟩ := h
          exact ⟨vs, h1, cvL_out _ _ _ hc h2⟩
/-- A contract over the reference's fractions is one over opaque numbers. -/
theorem specD_num {P : Program} {f : FuncId} {g g' : List D → Prop × List D} (h : SpecD NF P f g) (hg : ∀ ds', (g' ds').1 → ∀ ds, CvL ds' ds → (g ds).1 ∧ CvL (g' ds').2 (g ds).2) : SpecD NF P f g' := by
  intro ds' hp F w vs hF hr
  obtain ⟨ds, c, hr'⟩ := cvL_in ds' vs hr
  obtain ⟨h1, h2⟩ := hg ds' hp ds c
  exact (h ds h1 F w vs hF hr').mono fun e w' ⟨v, he, hv, hfr⟩ => ⟨v, he, cvR_out h2 hv, hfr⟩
/-- The same for contracts over inputs of a kind. -/
theorem specD_num' {P : Program} {f : FuncId} {g : List D → Prop × List D} {β : Type} {e' : β → List D} {pre' : β → Prop} {post' : β → List D} (h : SpecD NF P f g) (hg : ∀ b, pre' b → ∀ ds, CvL (e' b) ds → (g ds).1 ∧ CvL (post' b) (g ds).2) : SpecD NF P f (ctD e' pre' post') := by
  refine specD_num h (fun ds' hp ds hc => ?_)
  obtain ⟨b, rfl, h1, h2⟩ := ctD_pre hp
  rw [h2]
  exact hg b h1 ds hc
theorem cv_num {q : Rat} {d : D} (h : Cv (.num 1 q) d) : ∃ r, WV r ∧ r.val = q ∧ d = eR r := by
  generalize hx : D.num 1 q = x at h
  cases h with
  | same _ hh => exact absurd hx.symm (hh 1 q)
  | num r hw =>
    injection hx with _ hx
    exact ⟨r, hw, hx.symm, rfl⟩
theorem cv_same {d d' : D} (hd : ∀ k q, d ≠ .num k q) (h : Cv d d') : d' = d := by
  cases h with
  | same _ _ => rfl
  | num r _ => exact absurd rfl (hd 1 r.val)
theorem cv_to {r : SR} {q : Rat} (h : WV r ∧ r.val = q) : Cv (.num 1 q) (eR r) := by
  obtain ⟨h1, rfl⟩ := h
  exact .num r h1
theorem cv1 {q : Rat} {ds : List D} (h : CvL [.num 1 q] ds) : ∃ r, WV r ∧ r.val = q ∧ ds = [eR r] := by
  cases ds with
  | nil => exact h.elim
  | cons d t =>
    cases t with
    | cons e t => exact h.2.elim
    | nil =>
      obtain ⟨r, h1, h2, rfl⟩ := cv_num h.1
      exact ⟨r, h1, h2, rfl⟩
theorem cv2 {q p : Rat} {ds : List D} (h : CvL [.num 1 q, .num 1 p] ds) : ∃ r s, WV r ∧ r.val = q ∧ WV s ∧ s.val = p ∧ ds = [eR r, eR s] := by
  cases ds with
  | nil => exact h.elim
  | cons d t =>
    obtain ⟨r, h1, h2, rfl⟩ := cv_num h.1
    obtain ⟨s, h3, h4, rfl⟩ := cv1 h.2
    exact ⟨r, s, h1, h2, h3, h4, rfl⟩
theorem cvs1 {d : D} {ds : List D} (hd : ∀ k q, d ≠ .num k q) (h : CvL [d] ds) : ds = [d] := by
  cases ds with
  | nil => exact h.elim
  | cons e t =>
    cases t with
    | cons e t => exact h.2.elim
    | nil => rw [cv_same hd h.1]
theorem cvs2 {d e : D} {ds : List D} (hd : ∀ k q, d ≠ .num k q) (he : ∀ k q, e ≠ .num k q) (h : CvL [d, e] ds) : ds = [d, e] := by
  cases ds with
  | nil => exact h.elim
  | cons x t => rw [cv_same hd h.1, cvs1 he h.2]
theorem cvo1 {d : D} (hd : ∀ k q, d ≠ .num k q) : CvL [d] [d] := ⟨.same d hd, trivial⟩
theorem cvo2 {d e : D} (hd : ∀ k q, d ≠ .num k q) (he : ∀ k q, e ≠ .num k q) : CvL [d, e] [d, e] := ⟨.same d hd, .same e he, trivial⟩

def nD (q : Rat) : D := .num 1 q
@[simp] theorem nD_size (q : Rat) : (nD q).size = 3 := rfl
@[simp] theorem nD_agg (q : Rat) : (nD q).isAgg = true := rfl
@[simp] theorem nD_lit (q : Rat) : (nD q).isLit = false := rfl
theorem nD_inj {a b : Rat} (h : nD a = nD b) : a = b := by unfold nD at h; injection h
def f1E (p : Q1) : List D := [nD p.a]
theorem f1E_inj (p q : Q1) (h : f1E p = f1E q) : p = q := by
  obtain ⟨a⟩ := p; obtain ⟨b⟩ := q
  simp only [f1E, List.cons.injEq, and_true] at h
  rw [nD_inj h]
def f2E (p : Q2) : List D := [nD p.a, nD p.b]
theorem f2E_inj (p q : Q2) (h : f2E p = f2E q) : p = q := by
  obtain ⟨a, b⟩ := p; obtain ⟨c, d⟩ := q
  simp only [f2E, List.cons.injEq, and_true] at h
  rw [nD_inj h.1, nD_inj h.2]
end Go.Proofs.YtdkgkcnllhcamaaGreat.Ae

/-! impl.rat: what it holds; little, big, fit, ri, rq, low, neg. No condition. -/
namespace Go.Proofs.YtdkgkcnllhcamaaGreat.Ae
open Go Go.RowKit Go.Proofs.YtdkgkcnllhcamaaGreat.Dig
variable {N : NR}

def smallQ (q : Rat) : Prop := q.num.natAbs < 9223372036854775808 ∧ q.den < 9223372036854775808
instance (q : Rat) : Decidable (smallQ q) := by unfold smallQ; infer_instance
/-- A fraction as the program holds it. -/
def eRat (q : Rat) : D := if smallQ q then .agg [i64D q.num, i64D q.den, .lit (.pointer none)] else .agg [i64D 0, i64D 0, .ptr (eBR q)]
theorem eRat_s {q : Rat} (h : smallQ q) : eRat q = .agg [i64D q.num, i64D q.den, .lit (.pointer none)] := by unfold eRat; rw [if_pos h]
theorem eRat_b {q : Rat} (h : ¬ smallQ q) : eRat q = .agg [i64D 0, i64D 0, .ptr (eBR q)] := by unfold eRat; rw [if_neg h]
@[simp] theorem eRat_size (q : Rat) : (eRat q).size = 3 := by unfold eRat; split <;> rfl
@[simp] theorem eRat_agg (q : Rat) : (eRat q).isAgg = true := by unfold eRat; split <;> rfl
@[simp] theorem eRat_lit (q : Rat) : (eRat q).isLit = false := by unfold eRat; split <;> rfl
theorem eRat_inj {a b : Rat} (h : eRat a = eRat b) : a = b := by
  by_cases ha : smallQ a <;> by_cases hb : smallQ b
  · rw [eRat_s ha, eRat_s hb] at h
    simp only [D.agg.injEq, List.cons.injEq, and_true, i64D, D.lit.injEq, Value.int.injEq, true_and] at h
    exact Rat.ext h.1 (by omega)
  · rw [eRat_s ha, eRat_b hb] at h; simp at h
  · rw [eRat_b ha, eRat_s hb] at h; simp at h
  · rw [eRat_b ha, eRat_b hb] at h
    simp only [D.agg.injEq, List.cons.injEq, and_true, true_and, D.ptr.injEq] at h
    exact eBR_inj h
def r1E (p : Q1) : List D := [eRat p.a]
theorem r1E_inj (p q : Q1) (h : r1E p = r1E q) : p = q := by
  obtain ⟨a⟩ := p; obtain ⟨b⟩ := q
  simp only [r1E, List.cons.injEq, and_true] at h
  rw [eRat_inj h]
def r2E (p : Q2) : List D := [eRat p.a, eRat p.b]
theorem r2E_inj (p q : Q2) (h : r2E p = r2E q) : p = q := by
  obtain ⟨a, b⟩ := p; obtain ⟨c, d⟩ := q
  simp only [r2E, List.cons.injEq, and_true] at h
  rw [eRat_inj h.1, eRat_inj h.2]
def boolD (b : Bool) : D := .lit (.bool b)
theorem smallQ_qsz {q : Rat} (h : smallQ q) : qsz q ≤ 2 := by
  unfold smallQ at h
  exact Nat.max_le.2 ⟨ln_i64 (by omega), ln_i64 (by omega)⟩

/-! little -/
def lit31 (q : Rat) : Prop := q.num.natAbs < 2147483648 ∧ q.den < 2147483648
instance (q : Rat) : Decidable (lit31 q) := by unfold lit31; infer_instance
theorem lit31_small {q : Rat} (h : lit31 q) : smallQ q := ⟨by unfold lit31 at h; omega, by unfold lit31 at h; omega⟩
noncomputable def littleC := ctD r1E (fun p => True) (fun p => [boolD (decide (lit31 p.a))])
theorem littleC_at (a : Rat) : littleC [eRat a] = (True, [boolD (decide (lit31 a))]) := ctD_at r1E_inj ⟨a⟩
theorem little_spec : SpecD N Tryz.prog 53 littleC := by
  refine rdD (mf := fun f => false) tbl_nil (fn := Tryz.f53) (by kernel_rfl) rfl (by kernel_rfl) ?_
  rintro ⟨a⟩ _
  refine ⟨by show 1 ≤ 21; decide, ?_⟩
  simp only [r1E, Tryz.f53, boolD]
  by_cases ha : smallQ a
  · rw [eRat_s ha]
    have e : decide (lit31 a) = (decide (-2147483648 < a.num) && (decide (a.num < 2147483648) && decide ((a.den : Int) < 2147483648))) := by
      rw [← Bool.decide_and, ← Bool.decide_and]
      congr 1
      apply propext
      unfold lit31
      omega
    rw [e]
    generalize a.num = n
    generalize (a.den : Int) = d
    by_cases h1 : -2147483648 < n <;> by_cases h2 : n < 2147483648 <;> by_cases h3 : d < 2147483648 <;> simp [i64D, h1, h2, h3]
  · have e : decide (lit31 a) = false := by
      rw [decide_eq_false_iff_not]
      exact fun h => ha (lit31_small h)
    rw [eRat_b ha, e]
    simp [i64D]
theorem little_ok : callable Tryz.prog 53 = true := by kernel_rfl

/-! big -/
noncomputable def bigIC := ctD r1E (fun p => True) (fun p => [.ptr (eBR p.a)])
theorem bigIC_at (a : Rat) : bigIC [eRat a] = (True, [.ptr (eBR a)]) := ctD_at r1E_inj ⟨a⟩
noncomputable def bigITb : List (FuncId × Ct) := [(84, .data nbrC)]
theorem bigITb_ok : TbOK N Tryz.prog (tbl bigITb) := tbl_cons (c := .data nbrC) newBigRat_spec newBigRat_ok tbl_nil

@[simp] theorem bigITb1 : tbl bigITb 84 = some (.data nbrC) := rfl
theorem big_spec : SpecD N Tryz.prog 58 bigIC := by
  refine rdD (mf := fun f => false) bigITb_ok (fn := Tryz.f58) (by kernel_rfl) rfl (by kernel_rfl) ?_
  rintro ⟨a⟩ _
  refine ⟨by show 1 ≤ 13; decide, ?_⟩
  simp only [r1E, Tryz.f58]
  by_cases ha : smallQ a
  · rw [eRat_s ha]
    have c1 := nbrC_at a.num a.den
    unfold smallQ at ha
    have h1 : I64 a.num := by unfold I64; omega
    have h2 : I64 (a.den : Int) := by unfold I64; omega
    rw [Rat.num_divInt_den] at c1
    simp only [h1, h2, dz a, ne_eq, not_false_eq_true, and_self, i64D] at c1
    simp [i64D, c1]
  · rw [eRat_b ha]
    simp [i64D]
theorem big_ok : callable Tryz.prog 58 = true := by kernel_rfl

/-! fit -/
noncomputable def fitC := ctD pbE (fun p => qsz p.a < 1099511627776) (fun p => [eRat p.a])
theorem fitC_at (a : Rat) : fitC [.ptr (eBR a)] = (qsz a < 1099511627776, [eRat a]) := ctD_at pbE_inj ⟨a⟩
noncomputable def fitTb : List (FuncId × Ct) := [(60, .data numC), (61, .data denC), (80, .data isI64C), (81, .data int64C)]
theorem fitTb_ok : TbOK N Tryz.prog (tbl fitTb) := tbl_cons (c := .data numC) Num_spec Num_ok (tbl_cons (c := .data denC) Denom_spec Denom_ok (tbl_cons (c := .data isI64C) IsInt64_spec IsInt64_ok (tbl_cons (c := .data int64C) Int64_spec Int64_ok tbl_nil)))

@[simp] theorem fitTb1 : tbl fitTb 60 = some (.data numC) := rfl
@[simp] theorem fitTb2 : tbl fitTb 61 = some (.data denC) := rfl
@[simp] theorem fitTb3 : tbl fitTb 80 = some (.data isI64C) := rfl
@[simp] theorem fitTb4 : tbl fitTb 81 = some (.data int64C) := rfl
theorem fit_spec : SpecD N Tryz.prog 56 fitC := by
  refine rdD (mf := fun f => false) fitTb_ok (fn := Tryz.f56) (by kernel_rfl) rfl (by kernel_rfl) ?_
  rintro ⟨a⟩ ha
  have ha : qsz a < 1099511627776 := ha
  refine ⟨by show 1 ≤ 24; decide, ?_⟩
  simp only [pbE, Tryz.f56]
  have c1 := numC_at a
  have c2 := denC_at a
  have c3 := isI64C_at a.num
  have c4 := isI64C_at a.den
  have c5 := int64C_at a.num
  have c6 := int64C_at a.den
  simp only [ha, SZ_num ha, SZ_den ha, i64D] at c1 c2 c3 c4 c5 c6
  by_cases hs : smallQ a
  · rw [eRat_s hs]
    unfold smallQ at hs
    have h1 : I64 a.num := by unfold I64; omega
    have h2 : I64 (a.den : Int) := by unfold I64; omega
    have h3 : -9223372036854775808 < a.num := by omega
    simp only [h1, h2, decide_true] at c3 c4 c5 c6
    simp [i64D, c1, c2, c3, c4, c5, c6, h3]
  · rw [eRat_b hs]
    by_cases h1 : I64 a.num
    · by_cases h2 : I64 (a.den : Int)
      · have h3 : ¬ -9223372036854775808 < a.num := by
          intro h
          refine hs ⟨?_, ?_⟩
          · unfold I64 at h1; omega
          · unfold I64 at h2; omega
        simp only [h1, h2, decide_true] at c3 c4 c5 c6
        simp [i64D, c1, c2, c3, c4, c5, c6, h3]
      · simp only [h1, h2, decide_true, decide_false] at c3 c4
        simp [i64D, c1, c2, c3, c4]
    · simp only [h1, decide_false] at c3
      simp [i64D, c1, c2, c3]
theorem fit_ok : callable Tryz.prog 56 = true := by kernel_rfl

/-! ri, rq, low, neg -/
theorem smallQ_int {n : Int} (h : n.natAbs < 9223372036854775808) : smallQ (n : Rat) := ⟨by rw [Rat.num_intCast]; exact h, by rw [Rat.den_intCast]; decide⟩
noncomputable def riC := ctD z1E (fun p => p.a.natAbs < 9223372036854775808) (fun p => [eRat (p.a : Rat)])
theorem riC_at (a : Int) : riC [i64D a] = (a.natAbs < 9223372036854775808, [eRat (a : Rat)]) := ctD_at z1E_inj ⟨a⟩
theorem ri_spec : SpecD N Tryz.prog 23 riC := by
  refine rdD (mf := fun f => false) tbl_nil (fn := Tryz.f23) (by kernel_rfl) rfl (by kernel_rfl) ?_
  rintro ⟨a⟩ ha
  have ha : a.natAbs < 9223372036854775808 := ha
  refine ⟨by show 1 ≤ 5; decide, ?_⟩
  simp only [z1E, Tryz.f23, eRat_s (smallQ_int ha), Rat.num_intCast, Rat.den_intCast, i64D]
  simp
/-- A fraction in lowest terms. -/
def QI (n d : Int) : Prop := 0 < d ∧ Int.gcd n d = 1 ∧ n.natAbs < 9223372036854775808 ∧ d < 9223372036854775808
theorem QI_num {n d : Int} (h : QI n d) : (Rat.divInt n d).num = n ∧ ((Rat.divInt n d).den : Int) = d := by
  obtain ⟨h1, h2, _⟩ := h
  obtain ⟨e1, e2⟩ := low_pos (a := n) h1
  rw [h2] at e1 e2
  rw [← e1, ← e2]
  simp
theorem QI_small {n d : Int} (h : QI n d) : smallQ (Rat.divInt n d) := by
  obtain ⟨e1, e2⟩ := QI_num h
  obtain ⟨h1, h2, h3, h4⟩ := h
  refine ⟨by rw [e1]; exact h3, by omega⟩
theorem eRat_QI {n d : Int} (h : QI n d) : eRat (Rat.divInt n d) = .agg [i64D n, i64D d, .lit (.pointer none)] := by
  obtain ⟨e1, e2⟩ := QI_num h
  rw [eRat_s (QI_small h), e1, e2]
noncomputable def rqC := ctD qE (fun p => QI p.a p.b) (fun p => [eRat (Rat.divInt p.a p.b)])
theorem rqC_at (a b : Int) : rqC [eQ a b] = (QI a b, [eRat (Rat.divInt a b)]) := ctD_at qE_inj ⟨a, b⟩
theorem rq_spec : SpecD N Tryz.prog 21 rqC := by
  refine rdD (mf := fun f => false) tbl_nil (fn := Tryz.f21) (by kernel_rfl) rfl (by kernel_rfl) ?_
  rintro ⟨a, b⟩ h
  have h : QI a b := h
  refine ⟨by show 1 ≤ 8; decide, ?_⟩
  simp only [qE, Tryz.f21, eRat_QI h, i64D, eQ]
  simp
theorem rq_ok : callable Tryz.prog 21 = true := by kernel_rfl

/-! low -/
noncomputable def lowC := ctD iiE (fun p => p.a.natAbs < 9223372036854775808 ∧ 0 < p.b ∧ p.b < 9223372036854775808) (fun p => [eRat (Rat.divInt p.a p.b)])
theorem lowC_at (a b : Int) : lowC [i64D a, i64D b] = ((a.natAbs < 9223372036854775808 ∧ 0 < b ∧ b < 9223372036854775808), [eRat (Rat.divInt a b)]) := ctD_at iiE_inj ⟨a, b⟩
noncomputable def lowTb : List (FuncId × Ct) := [(52, .data absC), (51, .data gcdC)]
theorem lowTb_ok : TbOK N Tryz.prog (tbl lowTb) := tbl_cons (c := .data absC) abs64_spec abs64_ok (tbl_cons (c := .data gcdC) gcd64_spec gcd64_ok tbl_nil)

@[simp] theorem lowTb1 : tbl lowTb 52 = some (.data absC) := rfl
@[simp] theorem lowTb2 : tbl lowTb 51 = some (.data gcdC) := rfl
theorem small_divInt {n d : Int} (hn : n.natAbs < 9223372036854775808) (h0 : 0 < d) (hd : d < 9223372036854775808) : smallQ (Rat.divInt n d) :=
  ⟨Nat.lt_of_le_of_lt (num_le n d) hn, Nat.lt_of_le_of_lt (den_le (by omega)) (by omega)⟩
theorem low_spec : SpecD N Tryz.prog 54 lowC := by
  refine rdD (mf := fun f => false) lowTb_ok (fn := Tryz.f54) (by kernel_rfl) rfl (by kernel_rfl) ?_
  rintro ⟨n, d⟩ ⟨hn, h0, hd⟩
  have hn : n.natAbs < 9223372036854775808 := hn
  have h0 : 0 < d := h0
  have hd : d < 9223372036854775808 := hd
  refine ⟨by show 2 ≤ 23; decide, ?_⟩
  have hs := small_divInt hn h0 hd
  obtain ⟨e1, e2⟩ := low_pos (a := n) h0
  rw [eRat_s hs, ← e1, ← e2]
  have c1 := absC_at n
  have c2 := gcdC_at n.natAbs d.natAbs
  have h1 : I64 n := by unfold I64; omega
  have h2 : n.natAbs < 18446744073709551616 := by omega
  have h3 : d.natAbs < 18446744073709551616 := by omega
  have e3 : Nat.gcd n.natAbs d.natAbs = Int.gcd n d := rfl
  have hg0 : 0 < Int.gcd n d := by
    rcases Nat.eq_zero_or_pos (Int.gcd n d) with h | h
    · have := (Int.gcd_eq_zero_iff.1 h).2; omega
    · exact h
  have hgl : Int.gcd n d ≤ d.natAbs := Nat.le_of_dvd (by omega) (Nat.gcd_dvd_right _ _)
  have w1 : IntKind.u64.wrap d = (d.natAbs : Int) := by rw [wrap_u64]; omega
  simp only [h1, h2, h3, e3, and_self, u64D, i64D] at c1 c2
  have b1 := Int.natAbs_tdiv n (Int.gcd n d)
  have b2 := Int.natAbs_tdiv d (Int.gcd n d)
  have b3 : (Int.tdiv n (Int.gcd n d)).natAbs ≤ n.natAbs := by rw [b1]; exact Nat.div_le_self _ _
  have b4 : (Int.tdiv d (Int.gcd n d)).natAbs ≤ d.natAbs := by rw [b2]; exact Nat.div_le_self _ _
  have w3 : IntKind.i64.wrap (Int.tdiv n (Int.gcd n d)) = Int.tdiv n (Int.gcd n d) := i64_id _ (by omega) (by omega)
  have w4 : IntKind.i64.wrap (Int.tdiv d (Int.gcd n d)) = Int.tdiv d (Int.gcd n d) := i64_id _ (by omega) (by omega)
  have w2 : IntKind.i64.wrap (Int.gcd n d : Int) = (Int.gcd n d : Int) := i64_id _ (by omega) (by omega)
  clear b1 b2 e1 e2 hs
  simp only [iiE, Tryz.f54, i64D]
  generalize Int.gcd n d = g at *
  generalize hx : Int.tdiv n (g : Int) = x at *
  generalize hy : Int.tdiv d (g : Int) = y at *
  have hgz : ¬ g = 0 := by omega
  by_cases h4 : 1 < g
  · have h4' : (1 : Int) < g := by omega
    simp [c1, c2, w1, w2, hx, hy, w3, w4, h4', h4, hgz]
  · have h5 : g = 1 := by omega
    subst h5
    simp at hx hy w2
    subst hx hy
    simp [c1, c2, w1, w2]
theorem low_ok : callable Tryz.prog 54 = true := by kernel_rfl

/-! neg -/
noncomputable def rngC := ctD r1E (fun p => qsz p.a < MX) (fun p => [eRat (-p.a)])
theorem rngC_at (a : Rat) : rngC [eRat a] = (qsz a < MX, [eRat (-a)]) := ctD_at r1E_inj ⟨a⟩
theorem smallQ_neg {a : Rat} : smallQ (-a) ↔ smallQ a := by unfold smallQ; rw [Rat.neg_num, Rat.neg_den, Int.natAbs_neg]
noncomputable def ngTb : List (FuncId × Ct) := [(90, .mut [true, false] bNegC)]
theorem ngTb_ok : TbOK N Tryz.prog (tbl ngTb) := tbl_cons (c := .mut [true, false] bNegC) RNeg_spec RNeg_ok tbl_nil

@[simp] theorem ngTb1 : tbl ngTb 90 = some (.mut [true, false] bNegC) := rfl
theorem rneg_spec : SpecD N Tryz.prog 66 rngC := by
  refine rdD (mf := fun f => f == 90 || f == bld 49) ngTb_ok (fn := Tryz.f66) (by kernel_rfl) rfl (by kernel_rfl) ?_
  rintro ⟨a⟩ ha
  have ha : qsz a < MX := ha
  refine ⟨by show 1 ≤ 17; decide, ?_⟩
  simp only [r1E, Tryz.f66]
  by_cases hs : smallQ a
  · rw [eRat_s hs, eRat_s (smallQ_neg.2 hs), Rat.neg_num, Rat.neg_den]
    unfold smallQ at hs
    have w : IntKind.i64.wrap (-a.num) = -a.num := i64_id _ (by omega) (by omega)
    simp [i64D, w]
  · rw [eRat_b hs, eRat_b (fun h => hs (smallQ_neg.1 h))]
    have c1 := bNegC_at a
    simp only [ha, eBN_eq] at c1
    simp [i64D, c1]
theorem rneg_ok : callable Tryz.prog 66 = true := by kernel_rfl
theorem ri_ok : callable Tryz.prog 23 = true := by kernel_rfl
end Go.Proofs.YtdkgkcnllhcamaaGreat.Ae
