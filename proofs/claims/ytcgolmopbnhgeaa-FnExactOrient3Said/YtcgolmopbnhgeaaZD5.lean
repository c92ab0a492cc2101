/- Of our texts what the law leans on, in the order in which they build: T62, T63, T67. No condition. -/
import Derived.Test.YtcgolmopbnhgeaaZD4
set_option linter.unusedVariables false
set_option linter.unusedSimpArgs false
namespace Go.Proofs.Ytcgolmopbnhgeaa.Ae
open Go Go.RowKit Go.Proofs.Ytcgolmopbnhgeaa.Dig
noncomputable def idsC (n : Nat) := ct1 EMi (fun m => sqm n m ∧ (∀ r ∈ m, ∀ z ∈ r, I64 z) ∧ n ≤ 3) (fun m => [.lit (.int .i64 (detI n m).sign)])
theorem idsC_at (n : Nat) (m : List (List Int)) : idsC n [.sl 1 (m.map (EInt.list 1).e)] = ((sqm n m ∧ (∀ r ∈ m, ∀ z ∈ r, I64 z) ∧ n ≤ 3), [.lit (.int .i64 (detI n m).sign)]) := ct1_at (A := EMi) m
noncomputable def idsTb (n : Nat) : List (FuncId × Ct) := [(92, .data newC), (93, .data (idtC n)), (94, .data sgDC)]
@[simp] theorem idsTb1 (n : Nat) : tbl (idsTb n) 92 = some (.data newC) := rfl
@[simp] theorem idsTb2 (n : Nat) : tbl (idsTb n) 93 = some (.data (idtC n)) := rfl
@[simp] theorem idsTb3 (n : Nat) : tbl (idsTb n) 94 = some (.data sgDC) := rfl
theorem isl_ptr7 (d : D) : (D.ptr d).isLit = false := rfl
theorem take_succ7 {α : Type} {l : List α} {t : Nat} (z : α) (h : t < l.length) : l.take (t + 1) = l.take t ++ [l.getD t z] := by
  rw [List.take_add_one, List.getElem?_eq_getElem h, List.getD_eq_getElem?_getD, List.getElem?_eq_getElem h]; rfl
def sgO (m : List (List Int)) (rs : List D) (k : Nat) : St := ⟨[.dat (.sl 1 (m.map (EInt.list 1).e)), .any, .dat (.lit (.int .i64 0)), .row 9, .any, .any, .any, .any, .any, .any, .dat (.sl 1 (m.map (EInt.list 1).e)), .dat (.lit (.int .i64 m.length)), .dat (.lit (.int .i64 k)), .any, .any, .any, .any, .any, .any, .any, .any, .any, .any, .any, .any, .any, .any, .any, .any, .any, .any, .any, .any, .any, .any, .any, .any], [none, none, none, none, none, none, none, none, none, some (.row 1 133 rs), none, none, none, none, none, none, none, none, none, none, none, none, none, none, none, none, none, none, none, none, none, none, none, none, none, none, none]⟩
def sgN (m : List (List Int)) (rs : List D) (k : Nat) (r : List Int) (xs : List D) (t : Nat) : St := ⟨[.dat (.sl 1 (m.map (EInt.list 1).e)), .any, .dat (.lit (.int .i64 0)), .row 9, .any, .any, .row 16, .any, .any, .any, .dat (.sl 1 (m.map (EInt.list 1).e)), .dat (.lit (.int .i64 m.length)), .dat (.lit (.int .i64 k)), .any, .any, .any, .any, .dat (.sl 1 (r.map EInt.e)), .dat (.lit (.int .i64 r.length)), .dat (.lit (.int .i64 t)), .any, .any, .any, .any, .any, .any, .any, .any, .any, .any, .any, .any, .any, .any, .any, .any, .any], [none, none, none, none, none, none, none, none, none, some (.row 1 133 rs), none, none, none, none, none, none, some (.row 1 57 xs), none, none, none, none, none, none, none, none, none, none, none, none, none, none, none, none, none, none, none, none]⟩
set_option maxRecDepth 100000 in
set_option maxHeartbeats 4000000 in
theorem ids_spec {N : NR} (n : Nat) : SpecD N Try.prog 45 (idsC n) := by
  refine rd1 (mf := fun f => f == 93 || f == bld 132) (tb := tbl (idsTb n)) (tbl_cons (c := .data newC) newBigInt_spec newBigInt_ok (tbl_cons (c := .data (idtC n)) (det_spec n) det_ok (tbl_cons (c := .data sgDC) SignD_spec Sign_ok tbl_nil))) (fn := Try.f45) (by kernel_rfl) rfl (by kernel_rfl) (by kernel_rfl) ?_
  rintro m hp
  obtain ⟨hm, he, hn3⟩ : sqm n m ∧ (∀ r ∈ m, ∀ z ∈ r, I64 z) ∧ n ≤ 3 := hp
  have hml := hm.1
  show awp _ _ _ _ (start _ ([D.sl 1 (m.map (EInt.list 1).e)].map .dat) []) (endK _ _ _ ([D.lit (.int .i64 (detI n m).sign)].map .dat) [])
  simp only [Try.f45]
  simp [-D.isLit]
  refine loop_go (fun n' st => ∃ k, n' = m.length - k ∧ k ≤ m.length ∧ st = sgO m ((m.take k).map (EZp.list 1).e) k) (s0 := sgO m [] 0) (n := m.length) (snd_of (by simp [LeT, sgO]) (by simp [sgO])) ⟨0, rfl, by omega, rfl⟩ ?_
  rintro n' st ⟨k, hn', hk, rfl⟩ KN hN
  by_cases hkl : k < m.length
  · have q0 : (k : Int) < (m.length : Int) := by omega
    have w0 : IntKind.i64.wrap ((k : Int) + 1) = (k : Int) + 1 := i64_id _ (by omega) (by omega)
    obtain ⟨r, hr⟩ : ∃ r, r = m.getD k [] := ⟨_, rfl⟩
    have hrm : r ∈ m := by rw [hr]; exact getD_mem hkl
    have hrl := hm.2 r hrm
    have x1 : ix (m.map (EInt.list 1).e) k = some (.sl 1 (r.map EInt.e)) := by rw [ix_rows _ _ _ [] hkl, ← hr, rI_e]
    obtain ⟨RS, hRS⟩ : ∃ RS, RS = (m.take k).map (EZp.list 1).e := ⟨_, rfl⟩
    have l3 : RS.length = k := by rw [hRS]; simp; omega
    have b5 : RS.length + 1 ≤ maxLen := mxs (by omega)
    have b6 : (RS.length + 1) * 24 ≤ 140737488355328 := by omega
    have eRS : (m.take (k + 1)).map (EZp.list 1).e = RS ++ [.sl 1 (r.map EZp.e)] := by rw [take_succ7 [] hkl, List.map_append, ← hRS, ← hr]; rfl
    rw [← hRS]
    simp [-D.isLit, sgO, q0, x1]
    refine loop_go (fun n' st => ∃ t, n' = r.length - t ∧ t ≤ r.length ∧ st = sgN m RS k r ((r.take t).map EZp.e) t) (s0 := sgN m RS k r [] 0) (n := r.length) (snd_obs (n := 37) [(9, 9, .row 1 133 RS), (16, 16, .row 1 57 [])] rfl (by simp) (by simp [sgN])) ⟨0, rfl, by omega, rfl⟩ ?_
    rintro n'' st' ⟨t, hn'', ht, rfl⟩ KM hM
    by_cases htl : t < r.length
    · have q1 : (t : Int) < (r.length : Int) := by omega
      have w1 : IntKind.i64.wrap ((t : Int) + 1) = (t : Int) + 1 := i64_id _ (by omega) (by omega)
      obtain ⟨v, hv⟩ : ∃ v, v = r.getD t 0 := ⟨_, rfl⟩
      have iv : I64 v := by rw [hv]; exact he r hrm _ (getDi_mem htl)
      have x2 : ix (r.map EInt.e) t = some (.lit (.int .i64 v)) := by rw [ix_rows _ _ _ 0 htl, ← hv]; rfl
      obtain ⟨XS, hXS⟩ : ∃ XS, XS = (r.take t).map EZp.e := ⟨_, rfl⟩
      have l4 : XS.length = t := by rw [hXS]; simp; omega
      have b1 : XS.length + 1 ≤ maxLen := mxs (by omega)
      have b2 : (XS.length + 1) * 8 ≤ 140737488355328 := by omega
      have eXS : (r.take (t + 1)).map EZp.e = XS ++ [.ptr (eZ v)] := by rw [take_succ7 0 htl, List.map_append, ← hXS, ← hv]; rfl
      rw [← hXS]
      simp [-D.isLit, sgN, q1, x2, w1, n_new7, iv, b1, b2]
      exact hM _ (nx (m := r.length - (t + 1)) (s'' := sgN m RS k r ((r.take (t + 1)).map EZp.e) (t + 1)) (snd_obs (n := 37) [(9, 9, .row 1 133 RS), (16, 27, .row 1 57 ((r.take (t + 1)).map EZp.e))] rfl (by simp [eXS]) (by simp [sgN])) ⟨t + 1, rfl, by omega, rfl⟩ (by omega))
    · have htr : t = r.length := by omega
      subst htr
      rw [List.take_length]
      simp [-D.isLit, sgN, w0, b5, b6]
      exact hN _ (nx (m := m.length - (k + 1)) (s'' := sgO m ((m.take (k + 1)).map (EZp.list 1).e) (k + 1)) (snd_obs (n := 37) [(9, 32, .row 1 133 ((m.take (k + 1)).map (EZp.list 1).e))] rfl (by simp [eRS]) (by simp [sgO])) ⟨k + 1, rfl, by omega, rfl⟩ (by omega))
  · have hkm : k = m.length := by omega
    subst hkm
    rw [List.take_length]
    have c1 := idtC_at n m
    rw [eq_true (show sqm n m ∧ ent m ∧ n ≤ 3 from ⟨hm, ent_i64 he, hn3⟩)] at c1
    simp [-D.isLit, sgO, c1, n_sg7, isl_ptr7]
theorem ids_ok : callable Try.prog 45 = true := by kernel_rfl
def sqs (l : List Int) : Int := (l.map fun x => x * x).sum
theorem sqs_succ {l : List Int} {t : Nat} (h : t < l.length) : sqs (l.take (t + 1)) = sqs (l.take t) + l.getD t 0 * l.getD t 0 := by
  unfold sqs
  rw [take_succ7 0 h, List.map_append, List.sum_append]
  simp
theorem dm_sq {x : Int} (h : dm x) : 0 ≤ x * x ∧ x * x ≤ 18014398509481984 := ⟨by rw [← Int.natAbs_mul_self]; omega, (dm_mul h h).2⟩
theorem sqs_le {l : List Int} (h : ∀ x ∈ l, dm x) : ∀ t, t ≤ l.length → 0 ≤ sqs (l.take t) ∧ sqs (l.take t) ≤ 18014398509481984 * t
  | 0, _ => by simp [sqs]
  | t + 1, ht => by
    have ih := sqs_le h t (by omega)
    have h1 := dm_sq (h _ (getDi_mem (r := l) (k := t) (by omega)))
    rw [sqs_succ (by omega)]
    omega
def rowQ (l : List Int) (q : Bool) : List Int := match q with
  | true => l ++ [sqs l]
  | false => l
noncomputable def srwC := ct2 (EInt.list 1) EBool (fun l q => (∀ x ∈ l, dm x) ∧ l.length ≤ 3) (fun l q => [.sl 3 ((rowQ l q).map EZn.e)])
theorem srwC_at (l : List Int) (q : Bool) : srwC [.sl 1 (l.map EInt.e), .lit (.bool q)] = (((∀ x ∈ l, dm x) ∧ l.length ≤ 3), [.sl 3 ((rowQ l q).map EZn.e)]) := ct2_at (A := EInt.list 1) (B := EBool) l q
noncomputable def srwTb : List (FuncId × Ct) := [(95, .data l1rIntC), (96, .data nMulC), (98, .data nAddC)]
theorem srwTb_ok : TbOK NF Try.prog (tbl srwTb) := tbl_cons (c := .data l1rIntC) l1rInt_spec l1rInt_ok (tbl_cons (c := .data nMulC) nMul_spec l1rMul_ok (tbl_cons (c := .data nAddC) nAdd_spec l1rAdd_ok tbl_nil))
@[simp] theorem srwTb1 : tbl srwTb 95 = some (.data l1rIntC) := rfl
@[simp] theorem srwTb2 : tbl srwTb 96 = some (.data nMulC) := rfl
@[simp] theorem srwTb3 : tbl srwTb 98 = some (.data nAddC) := rfl
def srwS (l : List Int) (q : Bool) (out : List D) (g : Rat) (k : Nat) : St := ⟨[.dat (.sl 1 (l.map EInt.e)), .dat (.lit (.bool q)), .any, .any, .dat (.lit (.slice none 0 0)), .row 9, .obj 6 [] 0, .dat (.lit (.int .i64 k)), .any, .any, .any, .any, .any, .any, .any, .any, .any, .any, .any, .any, .any, .any, .any, .any, .any, .any, .any, .any, .any, .any, .any, .any, .any, .any, .any, .any, .any], [none, none, none, none, none, none, some (.box (nD g)), none, none, some (.row 3 73 out), none, none, none, none, none, none, none, none, none, none, none, none, none, none, none, none, none, none, none, none, none, none, none, none, none, none, none]⟩
theorem qz_s {n : Int} (h : -9223372036854775807 ≤ n ∧ n < 9223372036854775808) : qsz (n : Rat) ≤ 3 := by
  have h1 := qz_7 n
  have h2 := ln_i64 (n := n.natAbs) (by omega)
  omega
set_option maxRecDepth 100000 in
set_option maxHeartbeats 4000000 in
theorem srw_spec : SpecD NF Try.prog 48 srwC := by
  refine rd2 (mf := fun f => false) srwTb_ok (fn := Try.f48) (by kernel_rfl) rfl (by kernel_rfl) (by kernel_rfl) ?_
  rintro l q ⟨hd, hl⟩
  have hd : ∀ x ∈ l, dm x := hd
  have hl : l.length ≤ 3 := hl
  show awp _ _ _ _ (start _ ([D.sl 1 (l.map EInt.e), .lit (.bool q)].map .dat) []) (endK _ _ _ ([D.sl 3 ((rowQ l q).map EZn.e)].map .dat) [])
  have i0 : I64 0 := by unfold I64; omega
  simp only [Try.f48]
  simp [-D.isLit, i0]
  refine loop_go (fun n' st => ∃ k, n' = l.length - k ∧ k ≤ l.length ∧ st = srwS l q ((l.take k).map EZn.e) ((sqs (l.take k) : Int) : Rat) k) (s0 := srwS l q [] 0 0) (n := l.length) (snd_of (by simp [LeT, srwS]) (by simp [srwS])) ⟨0, rfl, by omega, by simp [sqs]⟩ ?_
  rintro n' st ⟨k, hn', hk, rfl⟩ KN hN
  have hsq := sqs_le hd k hk
  obtain ⟨G, hG⟩ : ∃ G : Rat, G = ((sqs (l.take k) : Int) : Rat) := ⟨_, rfl⟩
  have hGq : qsz G ≤ 3 := by rw [hG]; exact qz_s (by omega)
  by_cases hkl : k < l.length
  · have q0 : (k : Int) < (l.length : Int) := by omega
    have w1 : IntKind.i64.wrap ((k : Int) + 1) = (k : Int) + 1 := i64_id _ (by omega) (by omega)
    obtain ⟨v, hv⟩ : ∃ v, v = l.getD k 0 := ⟨_, rfl⟩
    have hdv : dm v := by rw [hv]; exact hd _ (getDi_mem hkl)
    have iv := dm_i64 hdv
    have zv := dm_qsz hdv
    obtain ⟨V, hV⟩ : ∃ V : Rat, V = (v : Rat) := ⟨_, rfl⟩
    have m1 := qsz_mul V V
    rw [← hV] at zv
    have s1 : qsz V + qsz V < MX := by rw [MX_val]; omega
    have s2 : qsz G + qsz (V * V) < MX := by rw [MX_val]; omega
    have x2 : ix (l.map EInt.e) k = some (.lit (.int .i64 v)) := by rw [ix_rows _ _ _ 0 hkl, ← hv]; rfl
    obtain ⟨XS, hXS⟩ : ∃ XS, XS = (l.take k).map EZn.e := ⟨_, rfl⟩
    have l4 : XS.length = k := by rw [hXS]; simp; omega
    have b1 : XS.length + 1 ≤ maxLen := mxs (by omega)
    have b2 : (XS.length + 1) * 40 ≤ 140737488355328 := by omega
    have eXS : (l.take (k + 1)).map EZn.e = XS ++ [nD V] := by rw [take_succ7 0 hkl, List.map_append, ← hXS, ← hv, hV]; rfl
    have eG : ((sqs (l.take (k + 1)) : Int) : Rat) = G + V * V := by rw [sqs_succ hkl, ← hv, Rat.intCast_add, Rat.intCast_mul, ← hG, ← hV]
    rw [← hXS, ← hG]
    simp [-D.isLit, srwS, q0, x2, w1, iv, ← hV, s1, s2, b1, b2]
    exact hN _ (nx (m := l.length - (k + 1)) (s'' := srwS l q ((l.take (k + 1)).map EZn.e) ((sqs (l.take (k + 1)) : Int) : Rat) (k + 1)) (snd_obs (n := 37) [(6, 6, .box (nD ((sqs (l.take (k + 1)) : Int) : Rat))), (9, 25, .row 3 73 ((l.take (k + 1)).map EZn.e))] rfl (by simp [eXS, eG]) (by simp [srwS])) ⟨k + 1, rfl, by omega, rfl⟩ (by omega))
  · have hkm : k = l.length := by omega
    subst hkm
    rw [← hG]
    rw [List.take_length] at hG ⊢
    obtain ⟨XS, hXS⟩ : ∃ XS, XS = l.map EZn.e := ⟨_, rfl⟩
    have l4 : XS.length = l.length := by rw [hXS]; simp
    have b1 : XS.length + 1 ≤ maxLen := mxs (by omega)
    have b2 : (XS.length + 1) * 40 ≤ 140737488355328 := by omega
    rw [← hXS]
    cases q with
    | false =>
      have e : (rowQ l false).map EZn.e = XS := by rw [hXS]; rfl
      rw [e]
      simp [-D.isLit, srwS]
    | true =>
      have e : (rowQ l true).map EZn.e = XS ++ [nD G] := by rw [hXS, hG]; show (l ++ [sqs l]).map EZn.e = _; rw [List.map_append]; rfl
      rw [e]
      simp [-D.isLit, srwS, b1, b2]
theorem srw_ok : callable Try.prog 48 = true := by kernel_rfl
noncomputable def sdtC (n : Nat) := ct1 EMn (fun m => sqm n m ∧ ent m ∧ n ≤ 3) (fun m => [nD ((detS n m : Int) : Rat)])
theorem sdtC_at (n : Nat) (m : List (List Int)) : sdtC n [.sl 1 (m.map (EZn.list 3).e)] = ((sqm n m ∧ ent m ∧ n ≤ 3), [nD ((detS n m : Int) : Rat)]) := ct1_at (A := EMn) m
def rsS (i : Nat) (m : List (List Int)) : Nat → List (List Int)
  | 0 => []
  | t + 1 => if t = i then rsS i m t else rsS i m t ++ [(m.getD t []).tail]
theorem rsS_eq {i : Nat} {m : List (List Int)} : ∀ t, t ≤ m.length → rsS i m t = ((m.take t).take i ++ (m.take t).drop (i + 1)).map List.tail
  | 0, _ => by simp [rsS]
  | t + 1, ht => by
    have ih := rsS_eq (i := i) (m := m) t (by omega)
    have e := take_succ7 [] (show t < m.length by omega)
    have hl : (m.take t).length = t := by simp; omega
    show (if t = i then _ else _) = _
    by_cases hti : t = i
    · subst hti
      rw [if_pos rfl, ih, e, List.take_append, List.drop_append, hl]
      simp
    · rw [if_neg hti, ih, e, List.take_append, List.drop_append, hl]
      rcases Nat.lt_or_ge t i with h | h
      · have e1 : i - t = (i - t - 1) + 1 := by omega
        have e2 : (m.take t).drop (i + 1) = [] := List.drop_eq_nil_of_le (by omega)
        have e3 : i + 1 - t = (i - t) + 1 := by omega
        rw [e1, e2, e3]
        simp
      · have e1 : i - t = 0 := by omega
        have e2 : i + 1 - t = 0 := by omega
        rw [e1, e2]
        simp
theorem rsS_all {i : Nat} {m : List (List Int)} : rsS i m m.length = minS i m := by rw [rsS_eq _ (Nat.le_refl _), List.take_length]; rfl
theorem rsS_len {i : Nat} {m : List (List Int)} : ∀ t, (rsS i m t).length ≤ t
  | 0 => by simp [rsS]
  | t + 1 => by
    have := rsS_len (i := i) (m := m) t
    show (if _ then _ else _ : List (List Int)).length ≤ _
    split
    · omega
    · simp; omega
def stI (m : List (List Int)) (s : Rat) (k : Nat) : St := ⟨[.dat (.sl 1 (m.map (EZn.list 3).e)), .any, .obj 2 [] 0, .obj 3 [] 0, .dat (.lit (.int .i64 k)), .any, .any, .any, .any, .any, .any, .any, .any, .any, .any, .any, .any, .any, .any, .any, .any, .any, .any, .any, .any, .any, .any, .any, .any, .any, .any, .any, .any, .any, .any, .any, .any, .any, .any, .any, .any, .any, .any, .any, .any, .any, .any, .any, .any, .any, .any, .any, .any, .any, .any, .any, .any, .any, .any, .any, .any, .any, .any, .any, .any, .any, .any], [none, none, some (.box zN3), some (.box (nD s)), none, none, none, none, none, none, none, none, none, none, none, none, none, none, none, none, none, none, none, none, none, none, none, none, none, none, none, none, none, none, none, none, none, none, none, none, none, none, none, none, none, none, none, none, none, none, none, none, none, none, none, none, none, none, none, none, none, none, none, none, none, none, none]⟩
def stJ (m : List (List Int)) (s : Rat) (k : Nat) (rs : List D) (t : Nat) : St := ⟨[.dat (.sl 1 (m.map (EZn.list 3).e)), .any, .obj 2 [] 0, .obj 3 [] 0, .dat (.lit (.int .i64 k)), .row 31, .dat (.lit (.int .i64 t)), .any, .any, .any, .any, .any, .any, .any, .any, .any, .any, .any, .any, .any, .any, .any, .any, .any, .any, .any, .any, .any, .any, .any, .any, .any, .any, .any, .any, .any, .any, .any, .any, .any, .any, .any, .any, .any, .any, .any, .any, .any, .any, .any, .any, .any, .any, .any, .any, .any, .any, .any, .any, .any, .any, .any, .any, .any, .any, .any, .any], [none, none, some (.box zN3), some (.box (nD s)), none, none, none, none, none, none, none, none, none, none, none, none, none, none, none, none, none, none, none, none, none, none, none, none, none, none, none, some (.row 1 84 rs), none, none, none, none, none, none, none, none, none, none, none, none, none, none, none, none, none, none, none, none, none, none, none, none, none, none, none, none, none, none, none, none, none, none, none]⟩
def stK (m : List (List Int)) (s : Rat) (k : Nat) (rs : List D) (t : Nat) : St := ⟨[.dat (.sl 1 (m.map (EZn.list 3).e)), .any, .obj 2 [] 0, .obj 3 [] 0, .dat (.lit (.int .i64 k)), .dat (.sl 1 rs), .dat (.lit (.int .i64 t)), .any, .any, .any, .any, .any, .any, .any, .any, .any, .any, .any, .any, .any, .any, .any, .any, .any, .any, .any, .any, .any, .any, .any, .any, .any, .any, .any, .any, .any, .any, .any, .any, .any, .any, .any, .any, .any, .any, .any, .any, .any, .any, .any, .any, .any, .any, .any, .any, .any, .any, .any, .any, .any, .any, .any, .any, .any, .any, .any, .any], [none, none, some (.box zN3), some (.box (nD s)), none, none, none, none, none, none, none, none, none, none, none, none, none, none, none, none, none, none, none, none, none, none, none, none, none, none, none, none, none, none, none, none, none, none, none, none, none, none, none, none, none, none, none, none, none, none, none, none, none, none, none, none, none, none, none, none, none, none, none, none, none, none, none]⟩
noncomputable def sdtTb (n : Nat) : List (FuncId × Ct) := [(95, .data l1rIntC), (41, .data nSignC), (47, .data (sdtC n)), (96, .data nMulC), (97, .data nNegC), (98, .data nAddC)]
@[simp] theorem sdtTb1 (n : Nat) : tbl (sdtTb n) 95 = some (.data l1rIntC) := rfl
@[simp] theorem sdtTb2 (n : Nat) : tbl (sdtTb n) 41 = some (.data nSignC) := rfl
@[simp] theorem sdtTb3 (n : Nat) : tbl (sdtTb n) 47 = some (.data (sdtC n)) := rfl
@[simp] theorem sdtTb4 (n : Nat) : tbl (sdtTb n) 96 = some (.data nMulC) := rfl
@[simp] theorem sdtTb5 (n : Nat) : tbl (sdtTb n) 97 = some (.data nNegC) := rfl
@[simp] theorem sdtTb6 (n : Nat) : tbl (sdtTb n) 98 = some (.data nAddC) := rfl
theorem sdt_ok : callable Try.prog 47 = true := by kernel_rfl
theorem altS_skip {f : Nat → Int} {k : Nat} (h : f k = 0) : altS f (k + 1) = altS f k := by
  by_cases hp : k % 2 = 1
  · rw [altS_odd hp, h]; omega
  · rw [altS_even hp, h]; omega
set_option maxRecDepth 100000 in
set_option maxHeartbeats 4000000 in
theorem sdt_spec : ∀ n, SpecD NF Try.prog 47 (sdtC n)
  | 0 => by
    refine rd1 (mf := fun f => false) (tb := tbl []) tbl_nil (fn := Try.f47) (by kernel_rfl) rfl (by kernel_rfl) (by kernel_rfl) ?_
    rintro m hp
    obtain ⟨hm, he, _⟩ : sqm 0 m ∧ ent m ∧ 0 ≤ 3 := hp
    obtain ⟨r, rfl⟩ : ∃ r, m = [r] := by
      have := hm.1
      match m, this with
      | [r], _ => exact ⟨r, rfl⟩
    obtain ⟨a, rfl⟩ : ∃ a, r = [a] := by
      have := hm.2 r (by simp)
      match r, this with
      | [a], _ => exact ⟨a, rfl⟩
    show awp _ _ _ _ (start _ ([D.sl 1 [.sl 3 [nD (a : Rat)]]].map .dat) []) (endK _ _ _ ([nD (a : Rat)].map .dat) [])
    simp [-D.isLit, Try.f47, ix]
  | n + 1 => by
    refine rd1 (mf := fun f => false) (tb := tbl (sdtTb n)) (tbl_cons (c := .data l1rIntC) l1rInt_spec l1rInt_ok (tbl_cons (c := .data nSignC) nSign_spec l1rSign_ok (tbl_cons (c := .data (sdtC n)) (sdt_spec n) sdt_ok (tbl_cons (c := .data nMulC) nMul_spec l1rMul_ok (tbl_cons (c := .data nNegC) nNeg_spec l1rNeg_ok (tbl_cons (c := .data nAddC) nAdd_spec l1rAdd_ok tbl_nil)))))) (fn := Try.f47) (by kernel_rfl) rfl (by kernel_rfl) (by kernel_rfl) ?_
    rintro m hp
    obtain ⟨hm, he, hn3⟩ : sqm (n + 1) m ∧ ent m ∧ n + 1 ≤ 3 := hp
    generalize hr : detS (n + 1) m = res
    have hms : m.length = n + 2 := hm.1
    have hbd := bd_le (n := n) (by omega)
    obtain ⟨f, hf⟩ : ∃ f : Nat → Int, f = fun k => (m.getD k []).getD 0 0 * detS n (minS k m) := ⟨_, rfl⟩
    have hres : altS f (n + 2) = res := by rw [← hr, hf]; rfl
    have hfl : ∀ j, j < n + 2 → ln (f j).natAbs ≤ 19 := fun j hj => by
      have h1 := detS_ln n (minS j m) (minS_ok hm hj) (minS_ent he)
      have h0 : m.getD j [] ∈ m := getD_mem (by omega)
      have h2 := he _ h0 _ (getDi_mem (r := m.getD j []) (k := 0) (by have := hm.2 _ h0; omega))
      have := ln_na_mul ((m.getD j []).getD 0 0) (detS n (minS j m))
      rw [hf]
      show ln ((m.getD j []).getD 0 0 * detS n (minS j m)).natAbs ≤ _
      omega
    show awp _ _ _ _ (start _ ([D.sl 1 (m.map (EZn.list 3).e)].map .dat) []) (endK _ _ _ ([nD (res : Rat)].map .dat) [])
    simp only [Try.f47]
    have h1 : ¬ ((m.length : Int) = 1) := by omega
    have h1' : ¬ (m.length = 1) := by omega
    have i0 : I64 0 := by unfold I64; omega
    simp [-D.isLit, h1, h1', i0]
    refine loop_go (fun n' st => ∃ k, n' = n + 2 - k ∧ k ≤ n + 2 ∧ st = stI m ((altS f k : Int) : Rat) k) (s0 := stI m 0 0) (n := n + 2) (snd_of (by simp [LeT, stI]) (by simp [stI, zN3])) ⟨0, rfl, by omega, rfl⟩ ?_
    rintro n' st ⟨k, hn', hk, rfl⟩ KN hN
    have w2 : IntKind.i64.wrap ((k : Int) + 1) = (k : Int) + 1 := i64_id _ (by omega) (by omega)
    obtain ⟨S, hS⟩ : ∃ S : Rat, S = ((altS f k : Int) : Rat) := ⟨_, rfl⟩
    by_cases hkl : k < n + 2
    · have hkm : k < m.length := by omega
      have q0 : (k : Int) < (m.length : Int) := by omega
      obtain ⟨r, hrr⟩ : ∃ r, r = m.getD k [] := ⟨_, rfl⟩
      have hrm : r ∈ m := by rw [hrr]; exact getD_mem hkm
      have hrl : r.length = n + 2 := hm.2 r hrm
      have q1 : 0 < r.length := by omega
      have q1i : (0 : Int) < (r.length : Int) := by omega
      obtain ⟨v, hv⟩ : ∃ v, v = r.getD 0 0 := ⟨_, rfl⟩
      have hvl : ln v.natAbs ≤ 2 := by rw [hv]; exact he r hrm _ (getDi_mem q1)
      have x1 : ix (m.map (EZn.list 3).e) k = some (.sl 3 (r.map EZn.e)) := by rw [ix_rows _ _ _ [] hkm, ← hrr, rN_e]
      have x2 : ix (r.map EZn.e) 0 = some (nD (v : Rat)) := by rw [ix_rows _ _ _ 0 q1, ← hv]; rfl
      rw [← hS]
      by_cases h0 : v = 0
      · have hfk : f k = 0 := by rw [hf]; show (m.getD k []).getD 0 0 * _ = 0; rw [← hrr, ← hv, h0, Int.zero_mul]
        have es : ((altS f (k + 1) : Int) : Rat) = S := by rw [altS_skip hfk, hS]
        have sv : ((v : Rat).num.sign = 0) = True := eq_true (by rw [h0]; rfl)
        simp [-D.isLit, stI, q0, q1i, x1, x2, sv, h0, w2]
        exact hN _ (nx (m := n + 2 - (k + 1)) (s'' := stI m ((altS f (k + 1) : Int) : Rat) (k + 1)) (snd_of (by simp [LeT, stI]) (by simp [stI, es])) ⟨k + 1, rfl, by omega, rfl⟩ (by omega))
      · simp [-D.isLit, stI, q0, q1i, x1, x2, h0]
        refine loop_go (fun n' st => ∃ t, n' = m.length - t ∧ t ≤ m.length ∧ ((t < m.length ∧ st = stJ m S k ((rsS k m t).map (EZn.list 3).e) t) ∨ (t = m.length ∧ st = stK m S k ((rsS k m t).map (EZn.list 3).e) t))) (s0 := stJ m S k [] 0) (n := m.length) (snd_obs (n := 67) [(2, 2, .box zN3), (3, 3, .box (nD S)), (31, 31, .row 1 84 [])] rfl (by simp) (by simp [stJ])) ⟨0, rfl, by omega, .inl ⟨by omega, rfl⟩⟩ ?_
        rintro n'' st' ⟨t, hn'', ht, hst⟩ KM hM
        rcases hst with ⟨htl, rfl⟩ | ⟨rfl, rfl⟩
        · have q2 : (t : Int) < (m.length : Int) := by omega
          obtain ⟨rt, hrt⟩ : ∃ rt, rt = m.getD t [] := ⟨_, rfl⟩
          have hrtl : rt.length = n + 2 := by rw [hrt]; exact hm.2 _ (getD_mem htl)
          have x3 : ix (m.map (EZn.list 3).e) t = some (.sl 3 (rt.map EZn.e)) := by rw [ix_rows _ _ _ [] htl, ← hrt, rN_e]
          have q3 : (1 : Int) ≤ (rt.length : Int) := by omega
          have w3 : IntKind.i64.wrap ((t : Int) + 1) = (t : Int) + 1 := i64_id _ (by omega) (by omega)
          have e1 : lsub (rt.map EZn.e) 1 rt.length = rt.tail.map EZn.e := by rw [lsub_map]; simp
          obtain ⟨RS, hRS⟩ : ∃ RS, RS = (rsS k m t).map (EZn.list 3).e := ⟨_, rfl⟩
          have l3 : RS.length ≤ t := by rw [hRS, List.length_map]; exact rsS_len t
          have b5 : RS.length + 1 ≤ maxLen := mxs (by omega)
          have b6 : (RS.length + 1) * 24 ≤ 140737488355328 := by omega
          have q4 : 1 ≤ rt.length := by omega
          rw [← hRS]
          by_cases htk : t = k
          · have eRS : (rsS k m (t + 1)).map (EZn.list 3).e = RS := by rw [hRS]; show (if t = k then _ else _ : List (List Int)).map _ = _; rw [if_pos htk]
            have tki : ((t : Int) = (k : Int)) := by omega
            by_cases hlast : t + 1 < m.length
            · simp [-D.isLit, stJ, q0, tki, htk, w2]
              exact hM _ (nx (m := m.length - (t + 1)) (s'' := stJ m S k ((rsS k m (t + 1)).map (EZn.list 3).e) (t + 1)) (snd_obs (n := 67) [(2, 2, .box zN3), (3, 3, .box (nD S)), (31, 31, .row 1 84 ((rsS k m (t + 1)).map (EZn.list 3).e))] rfl (by simp [eRS]) (by simp [stJ, htk])) ⟨t + 1, rfl, by omega, .inl ⟨hlast, rfl⟩⟩ (by omega))
            · simp [-D.isLit, stJ, q0, tki, htk, w2]
              exact hM _ (nx (m := m.length - (t + 1)) (s'' := stK m S k ((rsS k m (t + 1)).map (EZn.list 3).e) (t + 1)) (Snd.trans (Snd.toData _ 5 31 (.sl 1 ((rsS k m (t + 1)).map (EZn.list 3).e)) (by simp [St.get, eRS]) (by simp [St.mayFreeze, St.obj])) (snd_obs (n := 67) [(2, 2, .box zN3), (3, 3, .box (nD S))] rfl (by simp [St.frz]) (by simp [stK, St.frz, htk]))) ⟨t + 1, rfl, by omega, .inr ⟨by omega, rfl⟩⟩ (by omega))
          · have eRS : (rsS k m (t + 1)).map (EZn.list 3).e = RS ++ [.sl 3 (rt.tail.map EZn.e)] := by rw [hRS, hrt]; show (if t = k then _ else _ : List (List Int)).map _ = _; rw [if_neg htk, List.map_append]; rfl
            have tki : ¬ ((t : Int) = (k : Int)) := by omega
            by_cases hlast : t + 1 < m.length
            · simp [-D.isLit, stJ, q2, tki, htk, w3, x3, q3, q4, e1, b5, b6]
              exact hM _ (nx (m := m.length - (t + 1)) (s'' := stJ m S k ((rsS k m (t + 1)).map (EZn.list 3).e) (t + 1)) (snd_obs (n := 67) [(2, 2, .box zN3), (3, 3, .box (nD S)), (31, 48, .row 1 84 ((rsS k m (t + 1)).map (EZn.list 3).e))] rfl (by simp [eRS]) (by simp [stJ])) ⟨t + 1, rfl, by omega, .inl ⟨hlast, rfl⟩⟩ (by omega))
            · simp [-D.isLit, stJ, q2, tki, htk, w3, x3, q3, q4, e1, b5, b6]
              exact hM _ (nx (m := m.length - (t + 1)) (s'' := stK m S k ((rsS k m (t + 1)).map (EZn.list 3).e) (t + 1)) (Snd.trans (Snd.toData _ 5 48 (.sl 1 ((rsS k m (t + 1)).map (EZn.list 3).e)) (by simp [St.get, eRS]) (by simp [St.mayFreeze, St.obj])) (snd_obs (n := 67) [(2, 2, .box zN3), (3, 3, .box (nD S))] rfl (by simp [St.frz]) (by simp [stK, St.frz]))) ⟨t + 1, rfl, by omega, .inr ⟨by omega, rfl⟩⟩ (by omega))
        · obtain ⟨dk, hdk⟩ : ∃ dk, dk = detS n (minS k m) := ⟨_, rfl⟩
          have c1 := sdtC_at n (minS k m)
          rw [← rsS_all, rsS_all, eq_true (show sqm n (minS k m) ∧ ent (minS k m) ∧ n ≤ 3 from ⟨minS_ok hm hkl, minS_ent he, by omega⟩), ← hdk] at c1
          have hfk : f k = v * dk := by rw [hf, hv, hrr, hdk]
          have hsl := altS_ln hfl k (by omega)
          have dkl : ln dk.natAbs ≤ 17 := by rw [hdk]; have := detS_ln n _ (minS_ok hm hkl) (minS_ent he); omega
          have z1 := qz_7 v
          have z2 := qz_7 dk
          have z3 := qz_7 (altS f k)
          rw [← hS] at z3
          have x1 : ix (m.map (EZn.list 3).e) k = some (.sl 3 (r.map EZn.e)) := x1
          obtain ⟨V, hV⟩ : ∃ V : Rat, V = (v : Rat) := ⟨_, rfl⟩
          obtain ⟨DK, hDK⟩ : ∃ DK : Rat, DK = (dk : Rat) := ⟨_, rfl⟩
          rw [← hV] at z1 x2
          rw [← hDK] at z2 c1
          have m1 := qsz_mul V DK
          have m2 := qsz_neg (V * DK)
          have s1 : qsz V + qsz DK < MX := by rw [MX_val]; omega
          have s2 : qsz S + qsz (V * DK) < MX := by rw [MX_val]; omega
          have s3 : qsz S + qsz (-(V * DK)) < MX := by rw [MX_val]; omega
          have s4 : qsz (V * DK) < MX := by rw [MX_val]; omega
          have tm := tmod2 k
          rw [rsS_all]
          by_cases hpar : k % 2 = 1
          · have tm1 : (k : Int).tmod 2 = 1 := by rw [tm, hpar]; rfl
            have es : ((altS f (k + 1) : Int) : Rat) = S + -(V * DK) := by rw [altS_odd hpar, hfk, Rat.intCast_add, Rat.intCast_neg, Rat.intCast_mul, hS, hV, hDK]
            simp [-D.isLit, stK, q0, q1i, x1, x2, c1, tm1, w2, s1, s2, s3, s4]
            exact hN _ (nx (m := n + 2 - (k + 1)) (s'' := stI m ((altS f (k + 1) : Int) : Rat) (k + 1)) (snd_obs (n := 67) [(2, 2, .box zN3), (3, 3, .box (nD ((altS f (k + 1) : Int) : Rat)))] rfl (by simp [es]) (by simp [stI])) ⟨k + 1, rfl, by omega, rfl⟩ (by omega))
          · have tm0 : (k : Int).tmod 2 = 0 := by rw [tm]; omega
            have es : ((altS f (k + 1) : Int) : Rat) = S + V * DK := by rw [altS_even hpar, hfk, Rat.intCast_add, Rat.intCast_mul, hS, hV, hDK]
            simp [-D.isLit, stK, q0, q1i, x1, x2, c1, tm0, w2, s1, s2, s3, s4]
            exact hN _ (nx (m := n + 2 - (k + 1)) (s'' := stI m ((altS f (k + 1) : Int) : Rat) (k + 1)) (snd_obs (n := 67) [(2, 2, .box zN3), (3, 3, .box (nD ((altS f (k + 1) : Int) : Rat)))] rfl (by simp [es]) (by simp [stI])) ⟨k + 1, rfl, by omega, rfl⟩ (by omega))
    · have hkn : k = n + 2 := by omega
      subst hkn
      rw [hres]
      have q0 : ¬ (((n + 2 : Nat) : Int) < (m.length : Int)) := by omega
      have q0' : ¬ ((n : Int) + 2 < (m.length : Int)) := by omega
      simp [-D.isLit, stI, q0, q0', zN3]
end Go.Proofs.Ytcgolmopbnhgeaa.Ae

namespace Go.Proofs.Ytcgolmopbnhgeaa.Ae
open Go Go.RowKit Go.Proofs.Ytcgolmopbnhgeaa.Dig
theorem mx3 : 3 ≤ maxLen := by decide
def EI2p : Enc (Int × Int) := ⟨fun p => .ptr (EI2.e p), fun a b h => by
  simp only [D.ptr.injEq] at h
  exact EI2.inj _ _ h⟩
theorem sqi2 {x y : Int} (h1 : dm x) (h2 : dm y) : I64 (x * x + y * y) := by
  have m1 := dm_sq h1
  have m2 := dm_sq h2
  unfold I64; omega
theorem tame2_4 (a b c d e f g h : Int) : tame2C [.sl 2 [.agg [.lit (.int .i64 a), .lit (.int .i64 b)], .agg [.lit (.int .i64 c), .lit (.int .i64 d)], .agg [.lit (.int .i64 e), .lit (.int .i64 f)], .agg [.lit (.int .i64 g), .lit (.int .i64 h)]]] = (True, [.lit (.bool (decide (c2 (a, b) ∧ c2 (c, d) ∧ c2 (e, f) ∧ c2 (g, h))))]) := by
  have h1 := tame2C_at [(a, b), (c, d), (e, f), (g, h)]
  have h2 : (([(a, b), (c, d), (e, f), (g, h)] : List (Int × Int)).length < 4611686018427387904) = True := eq_true (by simp)
  rw [h2] at h1
  have h3 : (([(a, b), (c, d), (e, f), (g, h)] : List (Int × Int)).all fun p => decide (c2 p)) = decide (c2 (a, b) ∧ c2 (c, d) ∧ c2 (e, f) ∧ c2 (g, h)) := by rw [Bool.eq_iff_iff, decide_eq_true_eq]; simp
  rw [h3] at h1
  exact h1
attribute [simp] tame2_4
theorem l2Tame2_4 (a b c d e f g h : Int) : l2Tame2C [.sl 2 [.agg [.lit (.int .i64 a), .lit (.int .i64 b)], .agg [.lit (.int .i64 c), .lit (.int .i64 d)], .agg [.lit (.int .i64 e), .lit (.int .i64 f)], .agg [.lit (.int .i64 g), .lit (.int .i64 h)]]] = (True, [.lit (.bool (decide (c2 (a, b) ∧ c2 (c, d) ∧ c2 (e, f) ∧ c2 (g, h))))]) := by
  have h1 := l2Tame2C_at [(a, b), (c, d), (e, f), (g, h)]
  have h2 : (([(a, b), (c, d), (e, f), (g, h)] : List (Int × Int)).length < 4611686018427387904) = True := eq_true (by simp)
  rw [h2] at h1
  have h3 : (([(a, b), (c, d), (e, f), (g, h)] : List (Int × Int)).all fun p => decide (c2 p)) = decide (c2 (a, b) ∧ c2 (c, d) ∧ c2 (e, f) ∧ c2 (g, h)) := by rw [Bool.eq_iff_iff, decide_eq_true_eq]; simp
  rw [h3] at h1
  exact h1
attribute [simp] l2Tame2_4
end Go.Proofs.Ytcgolmopbnhgeaa.Ae

namespace Go.Proofs.Ytcgolmopbnhgeaa.Ae
open Go Go.RowKit Go.Proofs.Ytcgolmopbnhgeaa.Dig
theorem all2 {P : Int → Prop} {v0 v1 v2 v3 v4 v5 v6 v7 v8 : Int} (h : P v0 ∧ P v1 ∧ P v2 ∧ P v3 ∧ P v4 ∧ P v5 ∧ P v6 ∧ P v7 ∧ P v8) : ∀ r ∈ ([[v0, v1, v2], [v3, v4, v5], [v6, v7, v8]] : List (List Int)), ∀ z ∈ r, P z := by
  obtain ⟨hv0, hv1, hv2, hv3, hv4, hv5, hv6, hv7, hv8⟩ := h
  intro r hr z hz
  simp at hr
  rcases hr with rfl | rfl | rfl <;> (simp at hz; rcases hz with rfl | rfl | rfl <;> assumption)
theorem sqm2 (v0 v1 v2 v3 v4 v5 v6 v7 v8 : Int) : sqm 2 [[v0, v1, v2], [v3, v4, v5], [v6, v7, v8]] := ⟨rfl, fun r hr => by simp at hr; rcases hr with rfl | rfl | rfl <;> rfl⟩
theorem ids_2 {v0 v1 v2 v3 v4 v5 v6 v7 v8 : Int} (h : I64 v0 ∧ I64 v1 ∧ I64 v2 ∧ I64 v3 ∧ I64 v4 ∧ I64 v5 ∧ I64 v6 ∧ I64 v7 ∧ I64 v8) : idsC 2 [.sl 1 [.sl 1 [.lit (.int .i64 v0), .lit (.int .i64 v1), .lit (.int .i64 v2)], .sl 1 [.lit (.int .i64 v3), .lit (.int .i64 v4), .lit (.int .i64 v5)], .sl 1 [.lit (.int .i64 v6), .lit (.int .i64 v7), .lit (.int .i64 v8)]]] = (True, [.lit (.int .i64 (detI 2 [[v0, v1, v2], [v3, v4, v5], [v6, v7, v8]]).sign)]) := by
  have c := idsC_at 2 [[v0, v1, v2], [v3, v4, v5], [v6, v7, v8]]
  rw [eq_true (show sqm 2 [[v0, v1, v2], [v3, v4, v5], [v6, v7, v8]] ∧ (∀ r ∈ ([[v0, v1, v2], [v3, v4, v5], [v6, v7, v8]] : List (List Int)), ∀ z ∈ r, I64 z) ∧ 2 ≤ 3 from ⟨sqm2 .., all2 h, by omega⟩)] at c
  exact c
theorem sdt_2 {v0 v1 v2 v3 v4 v5 v6 v7 v8 : Int} (h : I64 v0 ∧ I64 v1 ∧ I64 v2 ∧ I64 v3 ∧ I64 v4 ∧ I64 v5 ∧ I64 v6 ∧ I64 v7 ∧ I64 v8) : sdtC 2 [.sl 1 [.sl 3 [nD (v0 : Rat), nD (v1 : Rat), nD (v2 : Rat)], .sl 3 [nD (v3 : Rat), nD (v4 : Rat), nD (v5 : Rat)], .sl 3 [nD (v6 : Rat), nD (v7 : Rat), nD (v8 : Rat)]]] = (True, [nD ((detI 2 [[v0, v1, v2], [v3, v4, v5], [v6, v7, v8]] : Int) : Rat)]) := by
  have c := sdtC_at 2 [[v0, v1, v2], [v3, v4, v5], [v6, v7, v8]]
  rw [eq_true (show sqm 2 [[v0, v1, v2], [v3, v4, v5], [v6, v7, v8]] ∧ ent [[v0, v1, v2], [v3, v4, v5], [v6, v7, v8]] ∧ 2 ≤ 3 from ⟨sqm2 .., ent_i64 (all2 h), by omega⟩), ← det_33] at c
  exact c
theorem srw_3 {v0 v1 v2 : Int} (h : dm v0 ∧ dm v1 ∧ dm v2) : srwC [.sl 1 [.lit (.int .i64 v0), .lit (.int .i64 v1), .lit (.int .i64 v2)], .lit (.bool false)] = (True, [.sl 3 [nD (v0 : Rat), nD (v1 : Rat), nD (v2 : Rat)]]) := by
  have c := srwC_at [v0, v1, v2] false
  obtain ⟨hv0, hv1, hv2⟩ := h
  rw [eq_true (show (∀ x ∈ ([v0, v1, v2] : List Int), dm x) ∧ ([v0, v1, v2] : List Int).length ≤ 3 from ⟨by intro x hx; simp at hx; rcases hx with rfl | rfl | rfl <;> assumption, by simp⟩)] at c
  exact c
theorem srw_2q {v0 v1 : Int} (h : dm v0 ∧ dm v1) : srwC [.sl 1 [.lit (.int .i64 v0), .lit (.int .i64 v1)], .lit (.bool true)] = (True, [.sl 3 [nD (v0 : Rat), nD (v1 : Rat), nD ((v0 * v0 + v1 * v1 : Int) : Rat)]]) := by
  have c := srwC_at [v0, v1] true
  obtain ⟨hv0, hv1⟩ := h
  rw [eq_true (show (∀ x ∈ ([v0, v1] : List Int), dm x) ∧ ([v0, v1] : List Int).length ≤ 3 from ⟨by intro x hx; simp at hx; rcases hx with rfl | rfl <;> assumption, by simp⟩)] at c
  have e : sqs [v0, v1] = v0 * v0 + v1 * v1 := by simp [sqs]
  rw [show rowQ [v0, v1] true = [v0, v1, sqs [v0, v1]] from rfl, e] at c
  exact c
noncomputable def iOr3C := ct4 EI3 EI3 EI3 EI3 (fun p0 p1 p2 p3 => True) (fun p0 p1 p2 p3 => [.lit (.int .i64 (if c3 (p0.1, p0.2.1, p0.2.2) ∧ c3 (p1.1, p1.2.1, p1.2.2) ∧ c3 (p2.1, p2.2.1, p2.2.2) ∧ c3 (p3.1, p3.2.1, p3.2.2) then (detI 2 [[(p0.1 - p3.1), (p0.2.1 - p3.2.1), (p0.2.2 - p3.2.2)], [(p1.1 - p3.1), (p1.2.1 - p3.2.1), (p1.2.2 - p3.2.2)], [(p2.1 - p3.1), (p2.2.1 - p3.2.1), (p2.2.2 - p3.2.2)]]).sign else 2))])
@[simp] theorem iOr3C_at (a b c : Int) (d e f : Int) (g h i : Int) (j k l : Int) : iOr3C [.agg [.lit (.int .i64 a), .lit (.int .i64 b), .lit (.int .i64 c)], .agg [.lit (.int .i64 d), .lit (.int .i64 e), .lit (.int .i64 f)], .agg [.lit (.int .i64 g), .lit (.int .i64 h), .lit (.int .i64 i)], .agg [.lit (.int .i64 j), .lit (.int .i64 k), .lit (.int .i64 l)]] = (True, [.lit (.int .i64 (if c3 (a, b, c) ∧ c3 (d, e, f) ∧ c3 (g, h, i) ∧ c3 (j, k, l) then (detI 2 [[(a - j), (b - k), (c - l)], [(d - j), (e - k), (f - l)], [(g - j), (h - k), (i - l)]]).sign else 2))]) := ct4_at (a, b, c) (d, e, f) (g, h, i) (j, k, l)
noncomputable def iOr3Tb : List (FuncId × Ct) := [(43, .data tame3C), (44, .data less3C), (45, .data (idsC 2))]
theorem iOr3Tb_ok {N : NR} : TbOK N Try.prog (tbl iOr3Tb) := tbl_cons (c := .data tame3C) tame3_spec tame3_ok (tbl_cons (c := .data less3C) less3_spec less3_ok (tbl_cons (c := .data (idsC 2)) (ids_spec 2) ids_ok tbl_nil))
@[simp] theorem iOr3Tb1 : tbl iOr3Tb 43 = some (.data tame3C) := rfl
@[simp] theorem iOr3Tb2 : tbl iOr3Tb 44 = some (.data less3C) := rfl
@[simp] theorem iOr3Tb3 : tbl iOr3Tb 45 = some (.data (idsC 2)) := rfl
set_option maxRecDepth 100000 in
set_option maxHeartbeats 4000000 in
theorem iOr3_spec {N : NR} : SpecD N Try.prog 15 iOr3C := by
  refine rd4 (mf := fun f => f == bld 131) iOr3Tb_ok (fn := Try.f15) (by kernel_rfl) rfl (by kernel_rfl) (by kernel_rfl) ?_
  rintro ⟨a, b, c⟩ ⟨d, e, f⟩ ⟨g, h, i⟩ ⟨j, k, l⟩ hp
  have hp : True := hp
  show awp _ _ _ _ (start _ ([.agg [.lit (.int .i64 a), .lit (.int .i64 b), .lit (.int .i64 c)], .agg [.lit (.int .i64 d), .lit (.int .i64 e), .lit (.int .i64 f)], .agg [.lit (.int .i64 g), .lit (.int .i64 h), .lit (.int .i64 i)], .agg [.lit (.int .i64 j), .lit (.int .i64 k), .lit (.int .i64 l)]].map .dat) []) (endK _ _ _ (([.lit (.int .i64 (if c3 (a, b, c) ∧ c3 (d, e, f) ∧ c3 (g, h, i) ∧ c3 (j, k, l) then (detI 2 [[(a - j), (b - k), (c - l)], [(d - j), (e - k), (f - l)], [(g - j), (h - k), (i - l)]]).sign else 2))]).map .dat) [])
  by_cases hok : c3 (a, b, c) ∧ c3 (d, e, f) ∧ c3 (g, h, i) ∧ c3 (j, k, l)
  · have hoks := hok
    rw [if_pos hok]
    obtain ⟨ok1, ok2, ok3, ok4⟩ := hok
    have d00 : dm (a - j) := dm_sub (ok1.1) (ok4.1)
    have d01 : dm (b - k) := dm_sub (ok1.2.1) (ok4.2.1)
    have d02 : dm (c - l) := dm_sub (ok1.2.2) (ok4.2.2)
    have d10 : dm (d - j) := dm_sub (ok2.1) (ok4.1)
    have d11 : dm (e - k) := dm_sub (ok2.2.1) (ok4.2.1)
    have d12 : dm (f - l) := dm_sub (ok2.2.2) (ok4.2.2)
    have d20 : dm (g - j) := dm_sub (ok3.1) (ok4.1)
    have d21 : dm (h - k) := dm_sub (ok3.2.1) (ok4.2.1)
    have d22 : dm (i - l) := dm_sub (ok3.2.2) (ok4.2.2)
    obtain ⟨x00, hx00⟩ : ∃ x, x = a - j := ⟨_, rfl⟩
    obtain ⟨x01, hx01⟩ : ∃ x, x = b - k := ⟨_, rfl⟩
    obtain ⟨x02, hx02⟩ : ∃ x, x = c - l := ⟨_, rfl⟩
    obtain ⟨x10, hx10⟩ : ∃ x, x = d - j := ⟨_, rfl⟩
    obtain ⟨x11, hx11⟩ : ∃ x, x = e - k := ⟨_, rfl⟩
    obtain ⟨x12, hx12⟩ : ∃ x, x = f - l := ⟨_, rfl⟩
    obtain ⟨x20, hx20⟩ : ∃ x, x = g - j := ⟨_, rfl⟩
    obtain ⟨x21, hx21⟩ : ∃ x, x = h - k := ⟨_, rfl⟩
    obtain ⟨x22, hx22⟩ : ∃ x, x = i - l := ⟨_, rfl⟩
    have cl0 : less3C [.agg [.lit (.int .i64 a), .lit (.int .i64 b), .lit (.int .i64 c)], .agg [.lit (.int .i64 j), .lit (.int .i64 k), .lit (.int .i64 l)]] = (True, [.agg [.lit (.int .i64 x00), .lit (.int .i64 x01), .lit (.int .i64 x02)]]) := by rw [less3C_at, eq_true (show c3 (a, b, c) ∧ c3 (j, k, l) from ⟨ok1, ok4⟩), ← hx00, ← hx01, ← hx02]
    have cl1 : less3C [.agg [.lit (.int .i64 d), .lit (.int .i64 e), .lit (.int .i64 f)], .agg [.lit (.int .i64 j), .lit (.int .i64 k), .lit (.int .i64 l)]] = (True, [.agg [.lit (.int .i64 x10), .lit (.int .i64 x11), .lit (.int .i64 x12)]]) := by rw [less3C_at, eq_true (show c3 (d, e, f) ∧ c3 (j, k, l) from ⟨ok2, ok4⟩), ← hx10, ← hx11, ← hx12]
    have cl2 : less3C [.agg [.lit (.int .i64 g), .lit (.int .i64 h), .lit (.int .i64 i)], .agg [.lit (.int .i64 j), .lit (.int .i64 k), .lit (.int .i64 l)]] = (True, [.agg [.lit (.int .i64 x20), .lit (.int .i64 x21), .lit (.int .i64 x22)]]) := by rw [less3C_at, eq_true (show c3 (g, h, i) ∧ c3 (j, k, l) from ⟨ok3, ok4⟩), ← hx20, ← hx21, ← hx22]
    rw [← hx00] at d00 ⊢
    rw [← hx01] at d01 ⊢
    rw [← hx02] at d02 ⊢
    rw [← hx10] at d10 ⊢
    rw [← hx11] at d11 ⊢
    rw [← hx12] at d12 ⊢
    rw [← hx20] at d20 ⊢
    rw [← hx21] at d21 ⊢
    rw [← hx22] at d22 ⊢
    have cd := ids_2 (⟨dm_i64 d00, dm_i64 d01, dm_i64 d02, dm_i64 d10, dm_i64 d11, dm_i64 d12, dm_i64 d20, dm_i64 d21, dm_i64 d22⟩)
    simp [-D.isLit, -less3C_at, Try.f15, ok1, ok2, ok3, ok4, cl0, cl1, cl2, cd, mx3]
  · have hb : decide (c3 (a, b, c) ∧ c3 (d, e, f) ∧ c3 (g, h, i) ∧ c3 (j, k, l)) = false := decide_eq_false hok
    rw [if_neg hok]
    simp [-D.isLit, -Bool.decide_and, Try.f15, hb]
theorem iOr3_ok : callable Try.prog 15 = true := by kernel_rfl
noncomputable def sl2Or3C := ct4 EI3 EI3 EI3 EI3 (fun p0 p1 p2 p3 => c3 (p0.1, p0.2.1, p0.2.2) ∧ c3 (p1.1, p1.2.1, p1.2.2) ∧ c3 (p2.1, p2.2.1, p2.2.2) ∧ c3 (p3.1, p3.2.1, p3.2.2)) (fun p0 p1 p2 p3 => [nD ((detI 2 [[(p0.1 - p3.1), (p0.2.1 - p3.2.1), (p0.2.2 - p3.2.2)], [(p1.1 - p3.1), (p1.2.1 - p3.2.1), (p1.2.2 - p3.2.2)], [(p2.1 - p3.1), (p2.2.1 - p3.2.1), (p2.2.2 - p3.2.2)]] : Int) : Rat)])
@[simp] theorem sl2Or3C_at (a b c : Int) (d e f : Int) (g h i : Int) (j k l : Int) : sl2Or3C [.agg [.lit (.int .i64 a), .lit (.int .i64 b), .lit (.int .i64 c)], .agg [.lit (.int .i64 d), .lit (.int .i64 e), .lit (.int .i64 f)], .agg [.lit (.int .i64 g), .lit (.int .i64 h), .lit (.int .i64 i)], .agg [.lit (.int .i64 j), .lit (.int .i64 k), .lit (.int .i64 l)]] = (c3 (a, b, c) ∧ c3 (d, e, f) ∧ c3 (g, h, i) ∧ c3 (j, k, l), [nD ((detI 2 [[(a - j), (b - k), (c - l)], [(d - j), (e - k), (f - l)], [(g - j), (h - k), (i - l)]] : Int) : Rat)]) := ct4_at (a, b, c) (d, e, f) (g, h, i) (j, k, l)
noncomputable def sl2Or3Tb : List (FuncId × Ct) := [(52, .data l2Sub3C), (48, .data srwC), (47, .data (sdtC 2))]
theorem sl2Or3Tb_ok : TbOK NF Try.prog (tbl sl2Or3Tb) := tbl_cons (c := .data l2Sub3C) l2Sub3_spec l2Sub3_ok (tbl_cons (c := .data srwC) srw_spec srw_ok (tbl_cons (c := .data (sdtC 2)) (sdt_spec 2) sdt_ok tbl_nil))
@[simp] theorem sl2Or3Tb1 : tbl sl2Or3Tb 52 = some (.data l2Sub3C) := rfl
@[simp] theorem sl2Or3Tb2 : tbl sl2Or3Tb 48 = some (.data srwC) := rfl
@[simp] theorem sl2Or3Tb3 : tbl sl2Or3Tb 47 = some (.data (sdtC 2)) := rfl
set_option maxRecDepth 100000 in
set_option maxHeartbeats 4000000 in
theorem sl2Or3_spec : SpecD NF Try.prog 42 sl2Or3C := by
  refine rd4 (mf := fun f => false) sl2Or3Tb_ok (fn := Try.f42) (by kernel_rfl) rfl (by kernel_rfl) (by kernel_rfl) ?_
  rintro ⟨a, b, c⟩ ⟨d, e, f⟩ ⟨g, h, i⟩ ⟨j, k, l⟩ hp
  have hp : c3 (a, b, c) ∧ c3 (d, e, f) ∧ c3 (g, h, i) ∧ c3 (j, k, l) := hp
  show awp _ _ _ _ (start _ ([.agg [.lit (.int .i64 a), .lit (.int .i64 b), .lit (.int .i64 c)], .agg [.lit (.int .i64 d), .lit (.int .i64 e), .lit (.int .i64 f)], .agg [.lit (.int .i64 g), .lit (.int .i64 h), .lit (.int .i64 i)], .agg [.lit (.int .i64 j), .lit (.int .i64 k), .lit (.int .i64 l)]].map .dat) []) (endK _ _ _ (([nD ((detI 2 [[(a - j), (b - k), (c - l)], [(d - j), (e - k), (f - l)], [(g - j), (h - k), (i - l)]] : Int) : Rat)]).map .dat) [])
  obtain ⟨ok1, ok2, ok3, ok4⟩ := hp
  have d00 : dm (a - j) := dm_sub (ok1.1) (ok4.1)
  have d01 : dm (b - k) := dm_sub (ok1.2.1) (ok4.2.1)
  have d02 : dm (c - l) := dm_sub (ok1.2.2) (ok4.2.2)
  have d10 : dm (d - j) := dm_sub (ok2.1) (ok4.1)
  have d11 : dm (e - k) := dm_sub (ok2.2.1) (ok4.2.1)
  have d12 : dm (f - l) := dm_sub (ok2.2.2) (ok4.2.2)
  have d20 : dm (g - j) := dm_sub (ok3.1) (ok4.1)
  have d21 : dm (h - k) := dm_sub (ok3.2.1) (ok4.2.1)
  have d22 : dm (i - l) := dm_sub (ok3.2.2) (ok4.2.2)
  obtain ⟨x00, hx00⟩ : ∃ x, x = a - j := ⟨_, rfl⟩
  obtain ⟨x01, hx01⟩ : ∃ x, x = b - k := ⟨_, rfl⟩
  obtain ⟨x02, hx02⟩ : ∃ x, x = c - l := ⟨_, rfl⟩
  obtain ⟨x10, hx10⟩ : ∃ x, x = d - j := ⟨_, rfl⟩
  obtain ⟨x11, hx11⟩ : ∃ x, x = e - k := ⟨_, rfl⟩
  obtain ⟨x12, hx12⟩ : ∃ x, x = f - l := ⟨_, rfl⟩
  obtain ⟨x20, hx20⟩ : ∃ x, x = g - j := ⟨_, rfl⟩
  obtain ⟨x21, hx21⟩ : ∃ x, x = h - k := ⟨_, rfl⟩
  obtain ⟨x22, hx22⟩ : ∃ x, x = i - l := ⟨_, rfl⟩
  have cs0 : l2Sub3C [.agg [.lit (.int .i64 a), .lit (.int .i64 b), .lit (.int .i64 c)], .agg [.lit (.int .i64 j), .lit (.int .i64 k), .lit (.int .i64 l)]] = (True, [.sl 1 [.lit (.int .i64 x00), .lit (.int .i64 x01), .lit (.int .i64 x02)]]) := by rw [l2Sub3C_at, eq_true (show c3 (a, b, c) ∧ c3 (j, k, l) from ⟨ok1, ok4⟩), ← hx00, ← hx01, ← hx02]
  have cs1 : l2Sub3C [.agg [.lit (.int .i64 d), .lit (.int .i64 e), .lit (.int .i64 f)], .agg [.lit (.int .i64 j), .lit (.int .i64 k), .lit (.int .i64 l)]] = (True, [.sl 1 [.lit (.int .i64 x10), .lit (.int .i64 x11), .lit (.int .i64 x12)]]) := by rw [l2Sub3C_at, eq_true (show c3 (d, e, f) ∧ c3 (j, k, l) from ⟨ok2, ok4⟩), ← hx10, ← hx11, ← hx12]
  have cs2 : l2Sub3C [.agg [.lit (.int .i64 g), .lit (.int .i64 h), .lit (.int .i64 i)], .agg [.lit (.int .i64 j), .lit (.int .i64 k), .lit (.int .i64 l)]] = (True, [.sl 1 [.lit (.int .i64 x20), .lit (.int .i64 x21), .lit (.int .i64 x22)]]) := by rw [l2Sub3C_at, eq_true (show c3 (g, h, i) ∧ c3 (j, k, l) from ⟨ok3, ok4⟩), ← hx20, ← hx21, ← hx22]
  rw [← hx00] at d00 ⊢
  rw [← hx01] at d01 ⊢
  rw [← hx02] at d02 ⊢
  rw [← hx10] at d10 ⊢
  rw [← hx11] at d11 ⊢
  rw [← hx12] at d12 ⊢
  rw [← hx20] at d20 ⊢
  rw [← hx21] at d21 ⊢
  rw [← hx22] at d22 ⊢
  have cr0 := srw_3 (⟨d00, d01, d02⟩)
  have cr1 := srw_3 (⟨d10, d11, d12⟩)
  have cr2 := srw_3 (⟨d20, d21, d22⟩)
  have cd := sdt_2 (⟨dm_i64 d00, dm_i64 d01, dm_i64 d02, dm_i64 d10, dm_i64 d11, dm_i64 d12, dm_i64 d20, dm_i64 d21, dm_i64 d22⟩)
  simp [-D.isLit, -l2Sub3C_at, -Rat.intCast_add, -Rat.intCast_mul, Try.f42, ok1, ok2, ok3, ok4, cs0, cs1, cs2, cr0, cr1, cr2, cd]
theorem sl2Or3_ok : callable Try.prog 42 = true := by kernel_rfl
noncomputable def sOr3C := ct4 EI3 EI3 EI3 EI3 (fun p0 p1 p2 p3 => True) (fun p0 p1 p2 p3 => [.lit (.int .i64 (if c3 (p0.1, p0.2.1, p0.2.2) ∧ c3 (p1.1, p1.2.1, p1.2.2) ∧ c3 (p2.1, p2.2.1, p2.2.2) ∧ c3 (p3.1, p3.2.1, p3.2.2) then (detI 2 [[(p0.1 - p3.1), (p0.2.1 - p3.2.1), (p0.2.2 - p3.2.2)], [(p1.1 - p3.1), (p1.2.1 - p3.2.1), (p1.2.2 - p3.2.2)], [(p2.1 - p3.1), (p2.2.1 - p3.2.1), (p2.2.2 - p3.2.2)]]).sign else 2))])
@[simp] theorem sOr3C_at (a b c : Int) (d e f : Int) (g h i : Int) (j k l : Int) : sOr3C [.agg [.lit (.int .i64 a), .lit (.int .i64 b), .lit (.int .i64 c)], .agg [.lit (.int .i64 d), .lit (.int .i64 e), .lit (.int .i64 f)], .agg [.lit (.int .i64 g), .lit (.int .i64 h), .lit (.int .i64 i)], .agg [.lit (.int .i64 j), .lit (.int .i64 k), .lit (.int .i64 l)]] = (True, [.lit (.int .i64 (if c3 (a, b, c) ∧ c3 (d, e, f) ∧ c3 (g, h, i) ∧ c3 (j, k, l) then (detI 2 [[(a - j), (b - k), (c - l)], [(d - j), (e - k), (f - l)], [(g - j), (h - k), (i - l)]]).sign else 2))]) := ct4_at (a, b, c) (d, e, f) (g, h, i) (j, k, l)
noncomputable def sOr3Tb : List (FuncId × Ct) := [(40, .data l2TameC), (42, .data sl2Or3C), (41, .data nSignC)]
theorem sOr3Tb_ok : TbOK NF Try.prog (tbl sOr3Tb) := tbl_cons (c := .data l2TameC) l2Tame_spec l2Tame_ok (tbl_cons (c := .data sl2Or3C) sl2Or3_spec sl2Or3_ok (tbl_cons (c := .data nSignC) nSign_spec l1rSign_ok tbl_nil))
@[simp] theorem sOr3Tb1 : tbl sOr3Tb 40 = some (.data l2TameC) := rfl
@[simp] theorem sOr3Tb2 : tbl sOr3Tb 42 = some (.data sl2Or3C) := rfl
@[simp] theorem sOr3Tb3 : tbl sOr3Tb 41 = some (.data nSignC) := rfl
set_option maxRecDepth 100000 in
set_option maxHeartbeats 4000000 in
theorem sOr3_spec : SpecD NF Try.prog 13 sOr3C := by
  refine rd4 (mf := fun f => false) sOr3Tb_ok (fn := Try.f13) (by kernel_rfl) rfl (by kernel_rfl) (by kernel_rfl) ?_
  rintro ⟨a, b, c⟩ ⟨d, e, f⟩ ⟨g, h, i⟩ ⟨j, k, l⟩ hp
  have hp : True := hp
  show awp _ _ _ _ (start _ ([.agg [.lit (.int .i64 a), .lit (.int .i64 b), .lit (.int .i64 c)], .agg [.lit (.int .i64 d), .lit (.int .i64 e), .lit (.int .i64 f)], .agg [.lit (.int .i64 g), .lit (.int .i64 h), .lit (.int .i64 i)], .agg [.lit (.int .i64 j), .lit (.int .i64 k), .lit (.int .i64 l)]].map .dat) []) (endK _ _ _ (([.lit (.int .i64 (if c3 (a, b, c) ∧ c3 (d, e, f) ∧ c3 (g, h, i) ∧ c3 (j, k, l) then (detI 2 [[(a - j), (b - k), (c - l)], [(d - j), (e - k), (f - l)], [(g - j), (h - k), (i - l)]]).sign else 2))]).map .dat) [])
  by_cases hok : c3 (a, b, c) ∧ c3 (d, e, f) ∧ c3 (g, h, i) ∧ c3 (j, k, l)
  · rw [if_pos hok]
    have hoks := hok
    obtain ⟨ok1, ok2, ok3, ok4⟩ := hok
    have cd : sl2Or3C [.agg [.lit (.int .i64 a), .lit (.int .i64 b), .lit (.int .i64 c)], .agg [.lit (.int .i64 d), .lit (.int .i64 e), .lit (.int .i64 f)], .agg [.lit (.int .i64 g), .lit (.int .i64 h), .lit (.int .i64 i)], .agg [.lit (.int .i64 j), .lit (.int .i64 k), .lit (.int .i64 l)]] = (True, [nD ((detI 2 [[(a - j), (b - k), (c - l)], [(d - j), (e - k), (f - l)], [(g - j), (h - k), (i - l)]] : Int) : Rat)]) := by rw [sl2Or3C_at, eq_true hoks]
    generalize detI 2 [[(a - j), (b - k), (c - l)], [(d - j), (e - k), (f - l)], [(g - j), (h - k), (i - l)]] = X at cd ⊢
    simp [-D.isLit, -sl2Or3C_at, Try.f13, ok1, ok2, ok3, ok4, cd, sgn_cast]
  · have hb : decide (c3 (a, b, c) ∧ c3 (d, e, f) ∧ c3 (g, h, i) ∧ c3 (j, k, l)) = false := decide_eq_false hok
    rw [if_neg hok]
    simp [-D.isLit, -Bool.decide_and, Try.f13, hb]
theorem sOr3_ok : callable Try.prog 13 = true := by kernel_rfl
noncomputable def lwOrient3C := ct4 EI3 EI3 EI3 EI3 (fun p0 p1 p2 p3 => (I64 p0.1 ∧ I64 p0.2.1 ∧ I64 p0.2.2) ∧ (I64 p1.1 ∧ I64 p1.2.1 ∧ I64 p1.2.2) ∧ (I64 p2.1 ∧ I64 p2.2.1 ∧ I64 p2.2.2) ∧ (I64 p3.1 ∧ I64 p3.2.1 ∧ I64 p3.2.2)) (fun p0 p1 p2 p3 => [.lit (.bool true)])
@[simp] theorem lwOrient3C_at (a b c : Int) (d e f : Int) (g h i : Int) (j k l : Int) : lwOrient3C [.agg [.lit (.int .i64 a), .lit (.int .i64 b), .lit (.int .i64 c)], .agg [.lit (.int .i64 d), .lit (.int .i64 e), .lit (.int .i64 f)], .agg [.lit (.int .i64 g), .lit (.int .i64 h), .lit (.int .i64 i)], .agg [.lit (.int .i64 j), .lit (.int .i64 k), .lit (.int .i64 l)]] = ((I64 a ∧ I64 b ∧ I64 c) ∧ (I64 d ∧ I64 e ∧ I64 f) ∧ (I64 g ∧ I64 h ∧ I64 i) ∧ (I64 j ∧ I64 k ∧ I64 l), [.lit (.bool true)]) := ct4_at (a, b, c) (d, e, f) (g, h, i) (j, k, l)
noncomputable def lwOrient3Tb : List (FuncId × Ct) := [(14, .data toP3C), (15, .data iOr3C), (13, .data sOr3C)]
theorem lwOrient3Tb_ok : TbOK NF Try.prog (tbl lwOrient3Tb) := tbl_cons (c := .data toP3C) toP3_spec toP3_ok (tbl_cons (c := .data iOr3C) iOr3_spec iOr3_ok (tbl_cons (c := .data sOr3C) sOr3_spec sOr3_ok tbl_nil))
@[simp] theorem lwOrient3Tb1 : tbl lwOrient3Tb 14 = some (.data toP3C) := rfl
@[simp] theorem lwOrient3Tb2 : tbl lwOrient3Tb 15 = some (.data iOr3C) := rfl
@[simp] theorem lwOrient3Tb3 : tbl lwOrient3Tb 13 = some (.data sOr3C) := rfl
theorem lwOrient3_spec : SpecD NF Try.prog 4 lwOrient3C := by
  refine rd4 (mf := fun f => false) lwOrient3Tb_ok (fn := Try.f4) (by kernel_rfl) rfl (by kernel_rfl) (by kernel_rfl) ?_
  rintro ⟨a, b, c⟩ ⟨d, e, f⟩ ⟨g, h, i⟩ ⟨j, k, l⟩ hp
  have hp : (I64 a ∧ I64 b ∧ I64 c) ∧ (I64 d ∧ I64 e ∧ I64 f) ∧ (I64 g ∧ I64 h ∧ I64 i) ∧ (I64 j ∧ I64 k ∧ I64 l) := hp
  show awp _ _ _ _ (start _ ([.agg [.lit (.int .i64 a), .lit (.int .i64 b), .lit (.int .i64 c)], .agg [.lit (.int .i64 d), .lit (.int .i64 e), .lit (.int .i64 f)], .agg [.lit (.int .i64 g), .lit (.int .i64 h), .lit (.int .i64 i)], .agg [.lit (.int .i64 j), .lit (.int .i64 k), .lit (.int .i64 l)]].map .dat) []) (endK _ _ _ (([.lit (.bool true)]).map .dat) [])
  generalize hX : (if c3 (a, b, c) ∧ c3 (d, e, f) ∧ c3 (g, h, i) ∧ c3 (j, k, l) then (detI 2 [[(a - j), (b - k), (c - l)], [(d - j), (e - k), (f - l)], [(g - j), (h - k), (i - l)]]).sign else 2) = X
  simp [-D.isLit, Try.f4, hX]
theorem lwOrient3_calls (a b c d e f g h i j k l : Int) (ha : (Lit.int .i64 a).wf = true) (hb : (Lit.int .i64 b).wf = true) (hc : (Lit.int .i64 c).wf = true) (hd : (Lit.int .i64 d).wf = true) (he : (Lit.int .i64 e).wf = true) (hf : (Lit.int .i64 f).wf = true) (hg : (Lit.int .i64 g).wf = true) (hh : (Lit.int .i64 h).wf = true) (hi : (Lit.int .i64 i).wf = true) (hj : (Lit.int .i64 j).wf = true) (hk : (Lit.int .i64 k).wf = true) (hl : (Lit.int .i64 l).wf = true) (w : World) :
    Calls Try.prog 4 #[.agg #[.int .i64 a, .int .i64 b, .int .i64 c], .agg #[.int .i64 d, .int .i64 e, .int .i64 f], .agg #[.int .i64 g, .int .i64 h, .int .i64 i], .agg #[.int .i64 j, .int .i64 k, .int .i64 l]] w fun e w' => e = .returned (.bool true) ∧ Below w.heap.size w w' :=
  law_calls lwOrient3_spec (ds := [.agg [.lit (.int .i64 a), .lit (.int .i64 b), .lit (.int .i64 c)], .agg [.lit (.int .i64 d), .lit (.int .i64 e), .lit (.int .i64 f)], .agg [.lit (.int .i64 g), .lit (.int .i64 h), .lit (.int .i64 i)], .agg [.lit (.int .i64 j), .lit (.int .i64 k), .lit (.int .i64 l)]]) (by rw [lwOrient3C_at]; exact ⟨⟨wf64 ha, wf64 hb, wf64 hc⟩, ⟨wf64 hd, wf64 he, wf64 hf⟩, ⟨wf64 hg, wf64 hh, wf64 hi⟩, ⟨wf64 hj, wf64 hk, wf64 hl⟩⟩) (by rw [lwOrient3C_at]; rfl) (vs := [.agg #[.int .i64 a, .int .i64 b, .int .i64 c], .agg #[.int .i64 d, .int .i64 e, .int .i64 f], .agg #[.int .i64 g, .int .i64 h, .int .i64 i], .agg #[.int .i64 j, .int .i64 k, .int .i64 l]]) (repVs_cons (repV_flat (cs := [.int .i64 a, .int .i64 b, .int .i64 c]) rfl (fun v hv => by simp at hv; rcases hv with rfl | rfl | rfl <;> rfl) rfl) (repVs_cons (repV_flat (cs := [.int .i64 d, .int .i64 e, .int .i64 f]) rfl (fun v hv => by simp at hv; rcases hv with rfl | rfl | rfl <;> rfl) rfl) (repVs_cons (repV_flat (cs := [.int .i64 g, .int .i64 h, .int .i64 i]) rfl (fun v hv => by simp at hv; rcases hv with rfl | rfl | rfl <;> rfl) rfl) (repVs_cons (repV_flat (cs := [.int .i64 j, .int .i64 k, .int .i64 l]) rfl (fun v hv => by simp at hv; rcases hv with rfl | rfl | rfl <;> rfl) rfl) repVs_nil))))
noncomputable def cloInCircleC := ct2 EI2 EI2p (fun p0 p1 => c2 (p0.1, p0.2) ∧ c2 (p1.1, p1.2)) (fun p0 p1 => [.sl 1 [.lit (.int .i64 (p0.1 - p1.1)), .lit (.int .i64 (p0.2 - p1.2)), .lit (.int .i64 ((p0.1 - p1.1) * (p0.1 - p1.1) + (p0.2 - p1.2) * (p0.2 - p1.2)))]])
@[simp] theorem cloInCircleC_at (a b : Int) (c d : Int) : cloInCircleC [.agg [.lit (.int .i64 a), .lit (.int .i64 b)], .ptr (.agg [.lit (.int .i64 c), .lit (.int .i64 d)])] = (c2 (a, b) ∧ c2 (c, d), [.sl 1 [.lit (.int .i64 (a - c)), .lit (.int .i64 (b - d)), .lit (.int .i64 ((a - c) * (a - c) + (b - d) * (b - d)))]]) := ct2_at (a, b) (c, d)
set_option maxRecDepth 100000 in
set_option maxHeartbeats 4000000 in
theorem cloInCircle_spec {N : NR} : SpecD N Try.prog 51 cloInCircleC := by
  refine rd2 (mf := fun f => false) (tb := tbl []) tbl_nil (fn := Try.f51) (by kernel_rfl) rfl (by kernel_rfl) (by kernel_rfl) ?_
  rintro ⟨a, b⟩ ⟨c, d⟩ hp
  have hp : c2 (a, b) ∧ c2 (c, d) := hp
  show awp _ _ _ _ (start _ ([.agg [.lit (.int .i64 a), .lit (.int .i64 b)], .ptr (.agg [.lit (.int .i64 c), .lit (.int .i64 d)])].map .dat) []) (endK _ _ _ (([.sl 1 [.lit (.int .i64 (a - c)), .lit (.int .i64 (b - d)), .lit (.int .i64 ((a - c) * (a - c) + (b - d) * (b - d)))]]).map .dat) [])
  obtain ⟨⟨a1, a2⟩, a3, a4⟩ := hp
  have d0 : dm (a - c) := dm_sub a1 a3
  have d1 : dm (b - d) := dm_sub a2 a4
  obtain ⟨x, hx⟩ : ∃ x, x = a - c := ⟨_, rfl⟩
  obtain ⟨y, hy⟩ : ∃ y, y = b - d := ⟨_, rfl⟩
  rw [← hx] at d0 ⊢
  rw [← hy] at d1 ⊢
  have m0 := dm_sq d0
  have m1 := dm_sq d1
  have i0 := dm_i64 d0
  have i1 := dm_i64 d1
  unfold I64 at i0 i1
  have w0 : IntKind.i64.wrap x = x := i64_id _ (by omega) (by omega)
  have w1 : IntKind.i64.wrap y = y := i64_id _ (by omega) (by omega)
  have w2 : IntKind.i64.wrap (x * x) = x * x := i64_id _ (by omega) (by omega)
  have w3 : IntKind.i64.wrap (y * y) = y * y := i64_id _ (by omega) (by omega)
  have w4 : IntKind.i64.wrap (x * x + y * y) = x * x + y * y := i64_id _ (by omega) (by omega)
  simp [-D.isLit, Try.f51, ← hx, ← hy, w0, w1, w2, w3, w4]
theorem cloInCircle_ok : callable Try.prog 51 = true := by kernel_rfl
noncomputable def iInCircleC := ct4 EI2 EI2 EI2 EI2 (fun p0 p1 p2 p3 => True) (fun p0 p1 p2 p3 => [.lit (.int .i64 (if c2 (p0.1, p0.2) ∧ c2 (p1.1, p1.2) ∧ c2 (p2.1, p2.2) ∧ c2 (p3.1, p3.2) then (detI 2 [[(p0.1 - p3.1), (p0.2 - p3.2), ((p0.1 - p3.1) * (p0.1 - p3.1) + (p0.2 - p3.2) * (p0.2 - p3.2))], [(p1.1 - p3.1), (p1.2 - p3.2), ((p1.1 - p3.1) * (p1.1 - p3.1) + (p1.2 - p3.2) * (p1.2 - p3.2))], [(p2.1 - p3.1), (p2.2 - p3.2), ((p2.1 - p3.1) * (p2.1 - p3.1) + (p2.2 - p3.2) * (p2.2 - p3.2))]]).sign else 2))])
@[simp] theorem iInCircleC_at (a b : Int) (c d : Int) (e f : Int) (g h : Int) : iInCircleC [.agg [.lit (.int .i64 a), .lit (.int .i64 b)], .agg [.lit (.int .i64 c), .lit (.int .i64 d)], .agg [.lit (.int .i64 e), .lit (.int .i64 f)], .agg [.lit (.int .i64 g), .lit (.int .i64 h)]] = (True, [.lit (.int .i64 (if c2 (a, b) ∧ c2 (c, d) ∧ c2 (e, f) ∧ c2 (g, h) then (detI 2 [[(a - g), (b - h), ((a - g) * (a - g) + (b - h) * (b - h))], [(c - g), (d - h), ((c - g) * (c - g) + (d - h) * (d - h))], [(e - g), (f - h), ((e - g) * (e - g) + (f - h) * (f - h))]]).sign else 2))]) := ct4_at (a, b) (c, d) (e, f) (g, h)
noncomputable def iInCircleTb : List (FuncId × Ct) := [(50, .data tame2C), (51, .data cloInCircleC), (45, .data (idsC 2))]
theorem iInCircleTb_ok {N : NR} : TbOK N Try.prog (tbl iInCircleTb) := tbl_cons (c := .data tame2C) tame2_spec tame2_ok (tbl_cons (c := .data cloInCircleC) cloInCircle_spec cloInCircle_ok (tbl_cons (c := .data (idsC 2)) (ids_spec 2) ids_ok tbl_nil))
@[simp] theorem iInCircleTb1 : tbl iInCircleTb 50 = some (.data tame2C) := rfl
@[simp] theorem iInCircleTb2 : tbl iInCircleTb 51 = some (.data cloInCircleC) := rfl
@[simp] theorem iInCircleTb3 : tbl iInCircleTb 45 = some (.data (idsC 2)) := rfl
set_option maxRecDepth 100000 in
set_option maxHeartbeats 4000000 in
theorem iInCircle_spec {N : NR} : SpecD N Try.prog 18 iInCircleC := by
  refine rd4 (mf := fun f => f == fnp) iInCircleTb_ok (fn := Try.f18) (by kernel_rfl) rfl (by kernel_rfl) (by kernel_rfl) ?_
  rintro ⟨a, b⟩ ⟨c, d⟩ ⟨e, f⟩ ⟨g, h⟩ hp
  have hp : True := hp
  show awp _ _ _ _ (start _ ([.agg [.lit (.int .i64 a), .lit (.int .i64 b)], .agg [.lit (.int .i64 c), .lit (.int .i64 d)], .agg [.lit (.int .i64 e), .lit (.int .i64 f)], .agg [.lit (.int .i64 g), .lit (.int .i64 h)]].map .dat) []) (endK _ _ _ (([.lit (.int .i64 (if c2 (a, b) ∧ c2 (c, d) ∧ c2 (e, f) ∧ c2 (g, h) then (detI 2 [[(a - g), (b - h), ((a - g) * (a - g) + (b - h) * (b - h))], [(c - g), (d - h), ((c - g) * (c - g) + (d - h) * (d - h))], [(e - g), (f - h), ((e - g) * (e - g) + (f - h) * (f - h))]]).sign else 2))]).map .dat) [])
  by_cases hok : c2 (a, b) ∧ c2 (c, d) ∧ c2 (e, f) ∧ c2 (g, h)
  · have hoks := hok
    rw [if_pos hok]
    obtain ⟨ok1, ok2, ok3, ok4⟩ := hok
    have d00 : dm (a - g) := dm_sub (ok1.1) (ok4.1)
    have d01 : dm (b - h) := dm_sub (ok1.2) (ok4.2)
    have d10 : dm (c - g) := dm_sub (ok2.1) (ok4.1)
    have d11 : dm (d - h) := dm_sub (ok2.2) (ok4.2)
    have d20 : dm (e - g) := dm_sub (ok3.1) (ok4.1)
    have d21 : dm (f - h) := dm_sub (ok3.2) (ok4.2)
    obtain ⟨x00, hx00⟩ : ∃ x, x = a - g := ⟨_, rfl⟩
    obtain ⟨x01, hx01⟩ : ∃ x, x = b - h := ⟨_, rfl⟩
    obtain ⟨x10, hx10⟩ : ∃ x, x = c - g := ⟨_, rfl⟩
    obtain ⟨x11, hx11⟩ : ∃ x, x = d - h := ⟨_, rfl⟩
    obtain ⟨x20, hx20⟩ : ∃ x, x = e - g := ⟨_, rfl⟩
    obtain ⟨x21, hx21⟩ : ∃ x, x = f - h := ⟨_, rfl⟩
    have cc0 : cloInCircleC [.agg [.lit (.int .i64 a), .lit (.int .i64 b)], .ptr (.agg [.lit (.int .i64 g), .lit (.int .i64 h)])] = (True, [.sl 1 [.lit (.int .i64 x00), .lit (.int .i64 x01), .lit (.int .i64 (x00 * x00 + x01 * x01))]]) := by rw [cloInCircleC_at, eq_true (show c2 (a, b) ∧ c2 (g, h) from ⟨ok1, ok4⟩), ← hx00, ← hx01]
    have cc1 : cloInCircleC [.agg [.lit (.int .i64 c), .lit (.int .i64 d)], .ptr (.agg [.lit (.int .i64 g), .lit (.int .i64 h)])] = (True, [.sl 1 [.lit (.int .i64 x10), .lit (.int .i64 x11), .lit (.int .i64 (x10 * x10 + x11 * x11))]]) := by rw [cloInCircleC_at, eq_true (show c2 (c, d) ∧ c2 (g, h) from ⟨ok2, ok4⟩), ← hx10, ← hx11]
    have cc2 : cloInCircleC [.agg [.lit (.int .i64 e), .lit (.int .i64 f)], .ptr (.agg [.lit (.int .i64 g), .lit (.int .i64 h)])] = (True, [.sl 1 [.lit (.int .i64 x20), .lit (.int .i64 x21), .lit (.int .i64 (x20 * x20 + x21 * x21))]]) := by rw [cloInCircleC_at, eq_true (show c2 (e, f) ∧ c2 (g, h) from ⟨ok3, ok4⟩), ← hx20, ← hx21]
    rw [← hx00] at d00 ⊢
    rw [← hx01] at d01 ⊢
    rw [← hx10] at d10 ⊢
    rw [← hx11] at d11 ⊢
    rw [← hx20] at d20 ⊢
    rw [← hx21] at d21 ⊢
    have cd := ids_2 (⟨dm_i64 d00, dm_i64 d01, sqi2 d00 d01, dm_i64 d10, dm_i64 d11, sqi2 d10 d11, dm_i64 d20, dm_i64 d21, sqi2 d20 d21⟩)
    simp [-D.isLit, -cloInCircleC_at, Try.f18, ok1, ok2, ok3, ok4, cc0, cc1, cc2, cd]
  · have hb : decide (c2 (a, b) ∧ c2 (c, d) ∧ c2 (e, f) ∧ c2 (g, h)) = false := decide_eq_false hok
    rw [if_neg hok]
    simp [-D.isLit, -Bool.decide_and, Try.f18, hb]
theorem iInCircle_ok : callable Try.prog 18 = true := by kernel_rfl
noncomputable def sInCircleC := ct4 EI2 EI2 EI2 EI2 (fun p0 p1 p2 p3 => True) (fun p0 p1 p2 p3 => [.lit (.int .i64 (if c2 (p0.1, p0.2) ∧ c2 (p1.1, p1.2) ∧ c2 (p2.1, p2.2) ∧ c2 (p3.1, p3.2) then (detI 2 [[(p0.1 - p3.1), (p0.2 - p3.2), ((p0.1 - p3.1) * (p0.1 - p3.1) + (p0.2 - p3.2) * (p0.2 - p3.2))], [(p1.1 - p3.1), (p1.2 - p3.2), ((p1.1 - p3.1) * (p1.1 - p3.1) + (p1.2 - p3.2) * (p1.2 - p3.2))], [(p2.1 - p3.1), (p2.2 - p3.2), ((p2.1 - p3.1) * (p2.1 - p3.1) + (p2.2 - p3.2) * (p2.2 - p3.2))]]).sign else 2))])
@[simp] theorem sInCircleC_at (a b : Int) (c d : Int) (e f : Int) (g h : Int) : sInCircleC [.agg [.lit (.int .i64 a), .lit (.int .i64 b)], .agg [.lit (.int .i64 c), .lit (.int .i64 d)], .agg [.lit (.int .i64 e), .lit (.int .i64 f)], .agg [.lit (.int .i64 g), .lit (.int .i64 h)]] = (True, [.lit (.int .i64 (if c2 (a, b) ∧ c2 (c, d) ∧ c2 (e, f) ∧ c2 (g, h) then (detI 2 [[(a - g), (b - h), ((a - g) * (a - g) + (b - h) * (b - h))], [(c - g), (d - h), ((c - g) * (c - g) + (d - h) * (d - h))], [(e - g), (f - h), ((e - g) * (e - g) + (f - h) * (f - h))]]).sign else 2))]) := ct4_at (a, b) (c, d) (e, f) (g, h)
noncomputable def sInCircleTb : List (FuncId × Ct) := [(46, .data l2Tame2C), (49, .data l2Sub2C), (48, .data srwC), (47, .data (sdtC 2)), (41, .data nSignC)]
theorem sInCircleTb_ok : TbOK NF Try.prog (tbl sInCircleTb) := tbl_cons (c := .data l2Tame2C) l2Tame2_spec l2Tame2_ok (tbl_cons (c := .data l2Sub2C) l2Sub2_spec l2Sub2_ok (tbl_cons (c := .data srwC) srw_spec srw_ok (tbl_cons (c := .data (sdtC 2)) (sdt_spec 2) sdt_ok (tbl_cons (c := .data nSignC) nSign_spec l1rSign_ok tbl_nil))))
@[simp] theorem sInCircleTb1 : tbl sInCircleTb 46 = some (.data l2Tame2C) := rfl
@[simp] theorem sInCircleTb2 : tbl sInCircleTb 49 = some (.data l2Sub2C) := rfl
@[simp] theorem sInCircleTb3 : tbl sInCircleTb 48 = some (.data srwC) := rfl
@[simp] theorem sInCircleTb4 : tbl sInCircleTb 47 = some (.data (sdtC 2)) := rfl
@[simp] theorem sInCircleTb5 : tbl sInCircleTb 41 = some (.data nSignC) := rfl
set_option maxRecDepth 100000 in
set_option maxHeartbeats 4000000 in
theorem sInCircle_spec : SpecD NF Try.prog 16 sInCircleC := by
  refine rd4 (mf := fun f => false) sInCircleTb_ok (fn := Try.f16) (by kernel_rfl) rfl (by kernel_rfl) (by kernel_rfl) ?_
  rintro ⟨a, b⟩ ⟨c, d⟩ ⟨e, f⟩ ⟨g, h⟩ hp
  have hp : True := hp
  show awp _ _ _ _ (start _ ([.agg [.lit (.int .i64 a), .lit (.int .i64 b)], .agg [.lit (.int .i64 c), .lit (.int .i64 d)], .agg [.lit (.int .i64 e), .lit (.int .i64 f)], .agg [.lit (.int .i64 g), .lit (.int .i64 h)]].map .dat) []) (endK _ _ _ (([.lit (.int .i64 (if c2 (a, b) ∧ c2 (c, d) ∧ c2 (e, f) ∧ c2 (g, h) then (detI 2 [[(a - g), (b - h), ((a - g) * (a - g) + (b - h) * (b - h))], [(c - g), (d - h), ((c - g) * (c - g) + (d - h) * (d - h))], [(e - g), (f - h), ((e - g) * (e - g) + (f - h) * (f - h))]]).sign else 2))]).map .dat) [])
  by_cases hok : c2 (a, b) ∧ c2 (c, d) ∧ c2 (e, f) ∧ c2 (g, h)
  · have hoks := hok
    rw [if_pos hok]
    obtain ⟨ok1, ok2, ok3, ok4⟩ := hok
    have d00 : dm (a - g) := dm_sub (ok1.1) (ok4.1)
    have d01 : dm (b - h) := dm_sub (ok1.2) (ok4.2)
    have d10 : dm (c - g) := dm_sub (ok2.1) (ok4.1)
    have d11 : dm (d - h) := dm_sub (ok2.2) (ok4.2)
    have d20 : dm (e - g) := dm_sub (ok3.1) (ok4.1)
    have d21 : dm (f - h) := dm_sub (ok3.2) (ok4.2)
    obtain ⟨x00, hx00⟩ : ∃ x, x = a - g := ⟨_, rfl⟩
    obtain ⟨x01, hx01⟩ : ∃ x, x = b - h := ⟨_, rfl⟩
    obtain ⟨x10, hx10⟩ : ∃ x, x = c - g := ⟨_, rfl⟩
    obtain ⟨x11, hx11⟩ : ∃ x, x = d - h := ⟨_, rfl⟩
    obtain ⟨x20, hx20⟩ : ∃ x, x = e - g := ⟨_, rfl⟩
    obtain ⟨x21, hx21⟩ : ∃ x, x = f - h := ⟨_, rfl⟩
    have cs0 : l2Sub2C [.agg [.lit (.int .i64 a), .lit (.int .i64 b)], .agg [.lit (.int .i64 g), .lit (.int .i64 h)]] = (True, [.sl 1 [.lit (.int .i64 x00), .lit (.int .i64 x01)]]) := by rw [l2Sub2C_at, eq_true (show c2 (a, b) ∧ c2 (g, h) from ⟨ok1, ok4⟩), ← hx00, ← hx01]
    have cs1 : l2Sub2C [.agg [.lit (.int .i64 c), .lit (.int .i64 d)], .agg [.lit (.int .i64 g), .lit (.int .i64 h)]] = (True, [.sl 1 [.lit (.int .i64 x10), .lit (.int .i64 x11)]]) := by rw [l2Sub2C_at, eq_true (show c2 (c, d) ∧ c2 (g, h) from ⟨ok2, ok4⟩), ← hx10, ← hx11]
    have cs2 : l2Sub2C [.agg [.lit (.int .i64 e), .lit (.int .i64 f)], .agg [.lit (.int .i64 g), .lit (.int .i64 h)]] = (True, [.sl 1 [.lit (.int .i64 x20), .lit (.int .i64 x21)]]) := by rw [l2Sub2C_at, eq_true (show c2 (e, f) ∧ c2 (g, h) from ⟨ok3, ok4⟩), ← hx20, ← hx21]
    rw [← hx00] at d00 ⊢
    rw [← hx01] at d01 ⊢
    rw [← hx10] at d10 ⊢
    rw [← hx11] at d11 ⊢
    rw [← hx20] at d20 ⊢
    rw [← hx21] at d21 ⊢
    have cr0 := srw_2q (⟨d00, d01⟩)
    have cr1 := srw_2q (⟨d10, d11⟩)
    have cr2 := srw_2q (⟨d20, d21⟩)
    have cd := sdt_2 (⟨dm_i64 d00, dm_i64 d01, sqi2 d00 d01, dm_i64 d10, dm_i64 d11, sqi2 d10 d11, dm_i64 d20, dm_i64 d21, sqi2 d20 d21⟩)
    simp [-D.isLit, -l2Sub2C_at, -Rat.intCast_add, -Rat.intCast_mul, Try.f16, ok1, ok2, ok3, ok4, cs0, cs1, cs2, cr0, cr1, cr2, cd, sgn_cast]
  · have hb : decide (c2 (a, b) ∧ c2 (c, d) ∧ c2 (e, f) ∧ c2 (g, h)) = false := decide_eq_false hok
    rw [if_neg hok]
    simp [-D.isLit, -Bool.decide_and, Try.f16, hb]
theorem sInCircle_ok : callable Try.prog 16 = true := by kernel_rfl
noncomputable def lwInCircleC := ct4 EI2 EI2 EI2 EI2 (fun p0 p1 p2 p3 => (I64 p0.1 ∧ I64 p0.2) ∧ (I64 p1.1 ∧ I64 p1.2) ∧ (I64 p2.1 ∧ I64 p2.2) ∧ (I64 p3.1 ∧ I64 p3.2)) (fun p0 p1 p2 p3 => [.lit (.bool true)])
@[simp] theorem lwInCircleC_at (a b : Int) (c d : Int) (e f : Int) (g h : Int) : lwInCircleC [.agg [.lit (.int .i64 a), .lit (.int .i64 b)], .agg [.lit (.int .i64 c), .lit (.int .i64 d)], .agg [.lit (.int .i64 e), .lit (.int .i64 f)], .agg [.lit (.int .i64 g), .lit (.int .i64 h)]] = ((I64 a ∧ I64 b) ∧ (I64 c ∧ I64 d) ∧ (I64 e ∧ I64 f) ∧ (I64 g ∧ I64 h), [.lit (.bool true)]) := ct4_at (a, b) (c, d) (e, f) (g, h)
noncomputable def lwInCircleTb : List (FuncId × Ct) := [(17, .data toP2C), (18, .data iInCircleC), (16, .data sInCircleC)]
theorem lwInCircleTb_ok : TbOK NF Try.prog (tbl lwInCircleTb) := tbl_cons (c := .data toP2C) toP2_spec toP2_ok (tbl_cons (c := .data iInCircleC) iInCircle_spec iInCircle_ok (tbl_cons (c := .data sInCircleC) sInCircle_spec sInCircle_ok tbl_nil))
@[simp] theorem lwInCircleTb1 : tbl lwInCircleTb 17 = some (.data toP2C) := rfl
@[simp] theorem lwInCircleTb2 : tbl lwInCircleTb 18 = some (.data iInCircleC) := rfl
@[simp] theorem lwInCircleTb3 : tbl lwInCircleTb 16 = some (.data sInCircleC) := rfl
theorem lwInCircle_spec : SpecD NF Try.prog 5 lwInCircleC := by
  refine rd4 (mf := fun f => false) lwInCircleTb_ok (fn := Try.f5) (by kernel_rfl) rfl (by kernel_rfl) (by kernel_rfl) ?_
  rintro ⟨a, b⟩ ⟨c, d⟩ ⟨e, f⟩ ⟨g, h⟩ hp
  have hp : (I64 a ∧ I64 b) ∧ (I64 c ∧ I64 d) ∧ (I64 e ∧ I64 f) ∧ (I64 g ∧ I64 h) := hp
  show awp _ _ _ _ (start _ ([.agg [.lit (.int .i64 a), .lit (.int .i64 b)], .agg [.lit (.int .i64 c), .lit (.int .i64 d)], .agg [.lit (.int .i64 e), .lit (.int .i64 f)], .agg [.lit (.int .i64 g), .lit (.int .i64 h)]].map .dat) []) (endK _ _ _ (([.lit (.bool true)]).map .dat) [])
  generalize hX : (if c2 (a, b) ∧ c2 (c, d) ∧ c2 (e, f) ∧ c2 (g, h) then (detI 2 [[(a - g), (b - h), ((a - g) * (a - g) + (b - h) * (b - h))], [(c - g), (d - h), ((c - g) * (c - g) + (d - h) * (d - h))], [(e - g), (f - h), ((e - g) * (e - g) + (f - h) * (f - h))]]).sign else 2) = X
  simp [-D.isLit, Try.f5, hX]
theorem lwInCircle_calls (a b c d e f g h : Int) (ha : (Lit.int .i64 a).wf = true) (hb : (Lit.int .i64 b).wf = true) (hc : (Lit.int .i64 c).wf = true) (hd : (Lit.int .i64 d).wf = true) (he : (Lit.int .i64 e).wf = true) (hf : (Lit.int .i64 f).wf = true) (hg : (Lit.int .i64 g).wf = true) (hh : (Lit.int .i64 h).wf = true) (w : World) :
    Calls Try.prog 5 #[.agg #[.int .i64 a, .int .i64 b], .agg #[.int .i64 c, .int .i64 d], .agg #[.int .i64 e, .int .i64 f], .agg #[.int .i64 g, .int .i64 h]] w fun e w' => e = .returned (.bool true) ∧ Below w.heap.size w w' :=
  law_calls lwInCircle_spec (ds := [.agg [.lit (.int .i64 a), .lit (.int .i64 b)], .agg [.lit (.int .i64 c), .lit (.int .i64 d)], .agg [.lit (.int .i64 e), .lit (.int .i64 f)], .agg [.lit (.int .i64 g), .lit (.int .i64 h)]]) (by rw [lwInCircleC_at]; exact ⟨⟨wf64 ha, wf64 hb⟩, ⟨wf64 hc, wf64 hd⟩, ⟨wf64 he, wf64 hf⟩, ⟨wf64 hg, wf64 hh⟩⟩) (by rw [lwInCircleC_at]; rfl) (vs := [.agg #[.int .i64 a, .int .i64 b], .agg #[.int .i64 c, .int .i64 d], .agg #[.int .i64 e, .int .i64 f], .agg #[.int .i64 g, .int .i64 h]]) (repVs_cons (repV_flat (cs := [.int .i64 a, .int .i64 b]) rfl (fun v hv => by simp at hv; rcases hv with rfl | rfl <;> rfl) rfl) (repVs_cons (repV_flat (cs := [.int .i64 c, .int .i64 d]) rfl (fun v hv => by simp at hv; rcases hv with rfl | rfl <;> rfl) rfl) (repVs_cons (repV_flat (cs := [.int .i64 e, .int .i64 f]) rfl (fun v hv => by simp at hv; rcases hv with rfl | rfl <;> rfl) rfl) (repVs_cons (repV_flat (cs := [.int .i64 g, .int .i64 h]) rfl (fun v hv => by simp at hv; rcases hv with rfl | rfl <;> rfl) rfl) repVs_nil))))
end Go.Proofs.Ytcgolmopbnhgeaa.Ae
