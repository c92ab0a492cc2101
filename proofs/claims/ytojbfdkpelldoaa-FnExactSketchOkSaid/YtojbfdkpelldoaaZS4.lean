/- Of our texts what the law leans on, in the order in which they build: T93, T94, T95. No condition. -/
import Derived.Test.YtojbfdkpelldoaaZS3
set_option linter.unusedVariables false
set_option linter.unusedSimpArgs false
namespace Go.Proofs.Ytojbfdkpelldoaa.Ae
open Go Go.RowKit Go.Proofs.Ytojbfdkpelldoaa.Dig
noncomputable def skOkC := ct1 ESk (fun p => sk64 p ∧ p.2.length < 1048577) (fun p => [.lit (.bool (skB p))])
@[simp] theorem skOkC_at (n : Int) (l : List RuleT) : skOkC [.agg [.lit (.int .i64 n), .sl 9 (l.map ERule.e)]] = ((sk64 (n, l) ∧ l.length < 1048577), [.lit (.bool (skB (n, l)))]) := ct1_at (A := ESk) (n, l)
theorem all_drop9 {α : Type} (p : α → Bool) (l : List α) (k : Nat) (x : α) (h : l[k]? = some x) (hb : ∀ y ∈ l.take k, p y = true) : (p x = false → l.all p = false) ∧ (p x = true → ∀ y ∈ l.take (k + 1), p y = true) := by
  constructor
  · intro hx
    cases hl : l.all p with
    | false => rfl
    | true => rw [List.all_eq_true] at hl; rw [hl x (List.mem_of_getElem? h)] at hx; cases hx
  · intro hx y hy
    rw [List.take_add_one, h] at hy
    simp at hy
    rcases hy with hy | rfl
    · exact hb y hy
    · exact hx
theorem skB_bad {n : Int} {l : List RuleT} (h : ¬ (1 ≤ n ∧ n ≤ 8)) : skB (n, l) = false := by unfold skB; rw [decide_eq_false h]; rfl
theorem skB_long {n : Int} {l : List RuleT} (h : ¬ l.length ≤ 16) : skB (n, l) = false := by unfold skB; rw [decide_eq_false (show ¬ (n, l).2.length ≤ 16 from h)]; simp
theorem skB_all {n : Int} {l : List RuleT} (h1 : 1 ≤ n ∧ n ≤ 8) (h2 : l.length ≤ 16) : skB (n, l) = l.all (rB n) := by unfold skB; rw [decide_eq_true (show 1 ≤ (n, l).1 ∧ (n, l).1 ≤ 8 from h1), decide_eq_true (show (n, l).2.length ≤ 16 from h2)]; simp
@[simp ↓] theorem dVal_eQ (a b : Int) : dValue (eQ a b) = some (.agg #[.int .i64 a, .int .i64 b]) := rfl
@[simp] theorem wf32_65 : (Lit.int .i32 65).wf = true := by decide
@[simp] theorem wf32_66 : (Lit.int .i32 66).wf = true := by decide
@[simp] theorem wf32_73 : (Lit.int .i32 73).wf = true := by decide
@[simp] theorem wf32_74 : (Lit.int .i32 74).wf = true := by decide
@[simp] theorem wf32_75 : (Lit.int .i32 75).wf = true := by decide
@[simp] theorem wf32_76 : (Lit.int .i32 76).wf = true := by decide
def skS (n : Int) (l : List RuleT) (j : Nat) : St := ⟨[.any, .obj 1 [] 0, .any, .any, .any, .any, .any, .any, .any, .any, .any, .any, .any, .any, .any, .any, .any, .any, .any, .any, .any, .any, .any, .any, .any, .any, .any, .any, .any, .dat (.sl 9 (l.map ERule.e)), .dat (.lit (.int .i64 l.length)), .dat (.lit (.int .i64 j)), .any, .any, .any, .any, .any, .any, .any, .any, .any, .any, .any, .any, .any, .any, .any, .any, .any, .any, .any, .any, .any, .any, .any, .any, .any, .any, .any, .any, .any, .any, .any, .any, .any, .any, .any, .any, .any, .any, .any, .any, .any, .any, .any, .any, .any, .any, .any, .any, .any, .any, .any, .any, .any, .any, .any, .any, .any, .any, .any, .any, .any, .any, .any, .any, .any, .any, .any, .any, .any, .any, .any, .any, .any, .any, .any, .any, .any, .any, .any, .any, .any, .any, .any, .any, .any, .any, .any, .any, .any, .any, .any, .any, .any, .any, .any, .any, .any, .any, .any, .any, .any], [none, some (.box (.agg [.lit (.int .i64 n), .sl 9 (l.map ERule.e)])), none, none, none, none, none, none, none, none, none, none, none, none, none, none, none, none, none, none, none, none, none, none, none, none, none, none, none, none, none, none, none, none, none, none, none, none, none, none, none, none, none, none, none, none, none, none, none, none, none, none, none, none, none, none, none, none, none, none, none, none, none, none, none, none, none, none, none, none, none, none, none, none, none, none, none, none, none, none, none, none, none, none, none, none, none, none, none, none, none, none, none, none, none, none, none, none, none, none, none, none, none, none, none, none, none, none, none, none, none, none, none, none, none, none, none, none, none, none, none, none, none, none, none, none, none, none, none, none, none, none, none]⟩
set_option maxRecDepth 100000 in
set_option maxHeartbeats 4000000 in
theorem iSk_spec : SpecD NF Try.prog 8 skOkC := by
  refine rd1 (mf := skMf) iSkTb_ok (fn := Try.f8) (by kernel_rfl) rfl (by kernel_rfl) (by kernel_rfl) ?_
  rintro ⟨n, l⟩ ⟨⟨hn64, _, h64⟩, hlen⟩
  have hlen : l.length < 1048577 := hlen
  have h64 : ∀ x ∈ l, Rule64 x := h64
  generalize hr : skB (n, l) = r
  show awp _ _ _ _ (start _ ([.agg [.lit (.int .i64 n), .sl 9 (l.map ERule.e)]].map .dat) []) (endK _ _ _ ([D.lit (.bool r)].map .dat) [])
  simp only [Try.f8]
  by_cases h1 : n < 1
  · have er : r = false := by rw [← hr]; exact skB_bad (by omega)
    subst er
    simp [-D.isLit, h1]
  by_cases h2 : 8 < n
  · have er : r = false := by rw [← hr]; exact skB_bad (by omega)
    subst er
    simp [-D.isLit, h1, h2]
  by_cases h3 : 16 < l.length
  · have er : r = false := by rw [← hr]; exact skB_long (by omega)
    subst er
    have h3' : (16 : Int) < l.length := by omega
    simp [-D.isLit, h1, h2, h3, h3']
  have h3' : ¬ (16 : Int) < l.length := by omega
  have hr : l.all (rB n) = r := by rw [← hr]; exact (skB_all (by omega) (by omega)).symm
  simp [-D.isLit, h1, h2, h3, h3']
  refine loop_go (fun m st => ∃ j, m = l.length - j ∧ j ≤ l.length ∧ (∀ y ∈ l.take j, rB n y = true) ∧ st = skS n l j) (s0 := skS n l 0) (n := l.length) (snd_obs (n := 133) [(1, 1, .box (.agg [.lit (.int .i64 n), .sl 9 (l.map ERule.e)]))] rfl (by simp) (by simp [skS])) ⟨0, rfl, Nat.zero_le _, by simp, rfl⟩ ?_
  rintro m st ⟨j, hm, hj, hall, rfl⟩ KN hN
  by_cases hh : j < l.length
  case neg =>
    have hjl : j = l.length := by omega
    subst hjl
    rw [List.take_length] at hall
    have er : r = true := by rw [← hr]; exact List.all_eq_true.2 hall
    subst er
    simp [-D.isLit, skS]
  obtain ⟨⟨k, a, b, c, d, ⟨e, f⟩, g, h⟩, hx, e1, hmem⟩ := at8 (E := ERule.e) hh
  have hj64 := h64 _ hmem
  obtain ⟨⟨i1, i2, i3, i4, i5⟩, ⟨i6, i7⟩, i8, i9⟩ := hj64
  have i1 : I64 k := i1
  have he64 : (I64 e ∧ I64 f) ∧ I64 g ∧ I64 h := ⟨⟨i6, i7⟩, i8, i9⟩
  clear i2 i3 i4 i5 i6 i7 i8 i9
  obtain ⟨a1, a2⟩ := all_drop9 (rB n) l j _ hx hall
  have w1 : IntKind.i64.wrap ((j : Int) + 1) = (j : Int) + 1 := i64_id _ (by omega) (by omega)
  have e1 : ix (l.map ERule.e) j = some (.agg [.lit (.int .i64 k), .lit (.int .i64 a), .lit (.int .i64 b), .lit (.int .i64 c), .lit (.int .i64 d), eQ e f, eQ g h]) := e1
  by_cases c0 : usN k = 0
  · have er : r = false := by rw [← hr]; exact a1 (rB_no fun h => h.1 c0)
    subst er
    simp [-D.isLit, skS, hh, e1, c0]
  simp [-D.isLit, skS, hh, e1, c0]
  refine sk_str n l j k a b c d e f g h (snd_obs (n := 133) [(1, 1, .box (.agg [.lit (.int .i64 n), .sl 9 (l.map ERule.e)])), (4, 4, .box (.agg [.lit (.int .i64 k), .lit (.int .i64 a), .lit (.int .i64 b), .lit (.int .i64 c), .lit (.int .i64 d), eQ e f, eQ g h])), (43, 43, .mp 60 (sv .i32 ([]))), (45, 45, .mp itS [.string (usS k), .int .i64 0])] rfl (by simp [sv]) (by simp [skS2])) ?_
  simp [-D.isLit, skX2]
  refine sk_ids n l j k a b c d e f g h (.bool false) (snd_obs (n := 133) [(1, 1, .box (.agg [.lit (.int .i64 n), .sl 9 (l.map ERule.e)])), (4, 4, .box (.agg [.lit (.int .i64 k), .lit (.int .i64 a), .lit (.int .i64 b), .lit (.int .i64 c), .lit (.int .i64 d), eQ e f, eQ g h])), (43, 43, .mp 60 (sv .i32 (nmK k))), (62, 62, .mp itK (.bool false :: (rI8 (k, a, b, c, d, (e, f), g, h)).map ent8))] rfl (by simp [rI8, ent8]) (by simp [skS4])) (fun q1 cur => ?_) (fun q1 s hs => ?_)
  rotate_left
  · have er : r = false := by rw [← hr]; exact a1 (rB_no fun h => q1 h.2.1)
    subst er
    simp [-D.isLit, hs]
  simp [-D.isLit, skX4]
  refine sk_qs n l j k a b c d e f g h (.bool false) he64 (snd_obs (n := 133) [(1, 1, .box (.agg [.lit (.int .i64 n), .sl 9 (l.map ERule.e)])), (4, 4, .box (.agg [.lit (.int .i64 k), .lit (.int .i64 a), .lit (.int .i64 b), .lit (.int .i64 c), .lit (.int .i64 d), eQ e f, eQ g h])), (43, 43, .mp 60 (sv .i32 (nmK k))), (92, 92, .mp itK (.bool false :: (rQ8 (k, a, b, c, d, (e, f), g, h)).map entQ))] rfl (by simp [rQ8, entQ]) (by simp [skS6])) (fun q2 cur' => ?_) (fun q2 s hs => ?_)
  rotate_left
  · have er : r = false := by rw [← hr]; exact a1 (rB_no fun h => q2 h.2.2.1)
    subst er
    simp [-D.isLit, hs]
  by_cases c1 : k = 9 ∧ e = 0 ∧ g = 0
  · have er : r = false := by rw [← hr]; exact a1 (rB_no fun h => h.2.2.2 c1)
    subst er
    obtain ⟨rfl, rfl, rfl⟩ := c1
    simp [-D.isLit, skX6]
  have a2 := a2 (rB_yes ⟨c0, q1, q2, c1⟩)
  by_cases c2 : k = 9
  · by_cases c3 : e = 0
    · have c4 : g ≠ 0 := fun h => c1 ⟨c2, c3, h⟩
      simp [-D.isLit, skX6, c2, c3, c4, w1]
      exact hN _ (nx (m := l.length - (j + 1)) (s'' := skS n l (j + 1)) (snd_obs (n := 133) [(1, 1, .box (.agg [.lit (.int .i64 n), .sl 9 (l.map ERule.e)]))] rfl (by simp) (by simp [skS])) ⟨j + 1, rfl, hh, a2, rfl⟩ (by omega))
    · simp [-D.isLit, skX6, c2, c3, w1]
      exact hN _ (nx (m := l.length - (j + 1)) (s'' := skS n l (j + 1)) (snd_obs (n := 133) [(1, 1, .box (.agg [.lit (.int .i64 n), .sl 9 (l.map ERule.e)]))] rfl (by simp) (by simp [skS])) ⟨j + 1, rfl, hh, a2, rfl⟩ (by omega))
  · simp [-D.isLit, skX6, c2, w1]
    exact hN _ (nx (m := l.length - (j + 1)) (s'' := skS n l (j + 1)) (snd_obs (n := 133) [(1, 1, .box (.agg [.lit (.int .i64 n), .sl 9 (l.map ERule.e)]))] rfl (by simp) (by simp [skS])) ⟨j + 1, rfl, hh, a2, rfl⟩ (by omega))
theorem iSk_ok : callable Try.prog 8 = true := by kernel_rfl
end Go.Proofs.Ytojbfdkpelldoaa.Ae

namespace Go.Proofs.Ytojbfdkpelldoaa.Ae
open Go Go.RowKit Go.Proofs.Ytojbfdkpelldoaa.Dig
noncomputable def sSkTb : List (FuncId × Ct) := [(18, .data qokC), (16, .data l18NC), (17, .data l7AC)]
theorem sSkTb_ok : TbOK NF Try.prog (tbl sSkTb) := tbl_cons (c := .data qokC) sQOk_spec sQOk_ok (tbl_cons (c := .data l18NC) l18N_spec l18N_ok (tbl_cons (c := .data l7AC) l7A_spec l7A_ok tbl_nil))
@[simp] theorem sSkTb1 : tbl sSkTb 18 = some (.data qokC) := rfl
@[simp] theorem sSkTb2 : tbl sSkTb 16 = some (.data l18NC) := rfl
@[simp] theorem sSkTb3 : tbl sSkTb 17 = some (.data l7AC) := rfl
noncomputable def ssP0 : Code := inL (inB (sq2 (sq1 (sq2 (sq2 (Try.f6.body.getD .skip))))))
noncomputable def ssP1 : Code := inB (sq1 (sq2 ssP0))
noncomputable def ssL2 : Code := inL (inB (sq2 (sq1 (sq2 (sq2 (sq2 (sq2 ssP1)))))))
noncomputable def ssL4 : Code := inL (inB (sq2 (sq1 (sq2 (sq2 (sq2 (sq2 (sq2 (sq2 ssP1)))))))))
theorem take_all9 {α : Type} {p : α → Prop} {l : List α} {m : Nat} {z : α} (h : l[m]? = some z) (hb : ∀ y ∈ l.take m, p y) (hz : p z) : ∀ y ∈ l.take (m + 1), p y := by
  intro y hy
  rw [List.take_add_one, h] at hy
  simp at hy
  rcases hy with hy | rfl
  · exact hb y hy
  · exact hz
theorem ids_at (k a b c d : Int) (q r : Int × Int) (hu : usN k ≠ 0) (m : Nat) (hm : m < 4) : ∃ u v, (rI8 (k, a, b, c, d, q, r))[m]? = some (u, v) ∧ ix ((nmB k).map boolD) m = some (.lit (.bool (decide (u ∈ nmK k)))) ∧ ix [.lit (.int .i64 a), .lit (.int .i64 b), .lit (.int .i64 c), .lit (.int .i64 d)] m = some (.lit (.int .i64 v)) := by
  rw [nmB_at k hu]
  rcases m with _ | _ | _ | _ | m
  · exact ⟨73, a, rfl, rfl, rfl⟩
  · exact ⟨74, b, rfl, rfl, rfl⟩
  · exact ⟨75, c, rfl, rfl, rfl⟩
  · exact ⟨76, d, rfl, rfl, rfl⟩
  · omega
theorem qs_at (k a b c d e f g h : Int) (hu : usN k ≠ 0) (m : Nat) (hm : m < 2) : ∃ u v w, (rQ8 (k, a, b, c, d, (e, f), g, h))[m]? = some (u, v, w) ∧ ix ((nmB k).map boolD) (4 + m) = some (.lit (.bool (decide (u ∈ nmK k)))) ∧ ix [eQ e f, eQ g h] m = some (.agg [.lit (.int .i64 v), .lit (.int .i64 w)]) := by
  rw [nmB_at k hu]
  rcases m with _ | _ | m
  · exact ⟨65, e, f, rfl, rfl, rfl⟩
  · exact ⟨66, g, h, rfl, rfl, rfl⟩
  · omega
theorem nmB_six {k : Int} (hu : usN k ≠ 0) : (nmB k).length = 6 := by
  rcases nmB_len k with h | h
  · exact absurd ((nmB_usN k).2 h) hu
  · exact h
def ssS2 (n : Int) (l : List RuleT) (j : Nat) (k a b c d e f g h : Int) (m : Nat) : St := ⟨[.any, .obj 1 [] 0, .any, .dat (.lit (.int .i64 j)), .obj 4 [] 0, .dat (.sl 1 ((nmB k).map boolD)), .dat (.sl 1 [.lit (.int .i64 a), .lit (.int .i64 b), .lit (.int .i64 c), .lit (.int .i64 d)]), .dat (.lit (.int .i64 m)), .any, .any, .any, .any, .any, .any, .any, .any, .any, .any, .any, .any, .any, .any, .any, .any, .any, .any, .any, .any, .any, .any, .any, .any, .any, .any, .any, .any, .any, .any, .any, .any, .any, .any, .any, .any, .any, .any, .any, .any, .any, .any, .any, .any, .any, .any, .any, .any, .any, .any, .any, .any, .any, .any, .any, .any, .any, .any, .any, .any, .any, .any, .any, .any, .any, .any, .any, .any, .any, .any, .any, .any, .any, .any, .any, .any, .any, .any, .any, .any, .any, .any, .any, .any, .any, .any, .any, .any, .any, .any, .any, .any, .any, .any, .any, .any, .any, .any, .any, .any, .any, .any, .any, .any, .any, .any, .any, .any, .any, .any, .any, .any, .any, .any, .any, .any, .any, .any, .any, .any, .any, .any, .any, .any, .any, .any, .any, .any], [none, some (.box (.agg [.lit (.int .i64 n), .sl 9 (l.map ERule.e)])), none, none, some (.box (.agg [.lit (.int .i64 k), .lit (.int .i64 a), .lit (.int .i64 b), .lit (.int .i64 c), .lit (.int .i64 d), eQ e f, eQ g h])), none, none, none, none, none, none, none, none, none, none, none, none, none, none, none, none, none, none, none, none, none, none, none, none, none, none, none, none, none, none, none, none, none, none, none, none, none, none, none, none, none, none, none, none, none, none, none, none, none, none, none, none, none, none, none, none, none, none, none, none, none, none, none, none, none, none, none, none, none, none, none, none, none, none, none, none, none, none, none, none, none, none, none, none, none, none, none, none, none, none, none, none, none, none, none, none, none, none, none, none, none, none, none, none, none, none, none, none, none, none, none, none, none, none, none, none, none, none, none, none, none, none, none, none, none, none, none, none, none, none, none]⟩
def ssX2 (n : Int) (l : List RuleT) (j : Nat) (k a b c d e f g h : Int) : St := ⟨[.any, .obj 1 [] 0, .any, .dat (.lit (.int .i64 j)), .obj 4 [] 0, .dat (.sl 1 ((nmB k).map boolD)), .dat (.sl 1 [.lit (.int .i64 a), .lit (.int .i64 b), .lit (.int .i64 c), .lit (.int .i64 d)]), .dat (.lit (.int .i64 4)), .any, .any, .any, .any, .any, .any, .any, .any, .any, .any, .any, .any, .any, .any, .any, .any, .any, .any, .any, .any, .any, .any, .any, .any, .any, .any, .any, .any, .any, .any, .any, .any, .any, .any, .any, .any, .any, .any, .any, .any, .any, .any, .any, .dat (.lit (.int .i64 4)), .dat (.lit (.bool false)), .any, .any, .any, .any, .any, .any, .any, .any, .any, .any, .any, .any, .any, .any, .any, .any, .any, .any, .any, .any, .any, .any, .any, .any, .any, .any, .any, .any, .any, .any, .any, .any, .any, .any, .any, .any, .any, .any, .any, .any, .any, .any, .any, .any, .any, .any, .any, .any, .any, .any, .any, .any, .any, .any, .any, .any, .any, .any, .any, .any, .any, .any, .any, .any, .any, .any, .any, .any, .any, .any, .any, .any, .any, .any, .any, .any, .any, .any, .any, .any, .any, .any, .any], [none, some (.box (.agg [.lit (.int .i64 n), .sl 9 (l.map ERule.e)])), none, none, some (.box (.agg [.lit (.int .i64 k), .lit (.int .i64 a), .lit (.int .i64 b), .lit (.int .i64 c), .lit (.int .i64 d), eQ e f, eQ g h])), none, none, none, none, none, none, none, none, none, none, none, none, none, none, none, none, none, none, none, none, none, none, none, none, none, none, none, none, none, none, none, none, none, none, none, none, none, none, none, none, none, none, none, none, none, none, none, none, none, none, none, none, none, none, none, none, none, none, none, none, none, none, none, none, none, none, none, none, none, none, none, none, none, none, none, none, none, none, none, none, none, none, none, none, none, none, none, none, none, none, none, none, none, none, none, none, none, none, none, none, none, none, none, none, none, none, none, none, none, none, none, none, none, none, none, none, none, none, none, none, none, none, none, none, none, none, none, none, none, none, none]⟩
def ssS4 (n : Int) (l : List RuleT) (j : Nat) (k a b c d e f g h : Int) (m : Nat) : St := ⟨[.any, .obj 1 [] 0, .any, .dat (.lit (.int .i64 j)), .obj 4 [] 0, .dat (.sl 1 ((nmB k).map boolD)), .any, .any, .dat (.sl 2 [eQ e f, eQ g h]), .dat (.lit (.int .i64 m)), .any, .any, .any, .any, .any, .any, .any, .any, .any, .any, .any, .any, .any, .any, .any, .any, .any, .any, .any, .any, .any, .any, .any, .any, .any, .any, .any, .any, .any, .any, .any, .any, .any, .any, .any, .any, .any, .any, .any, .any, .any, .any, .any, .any, .any, .any, .any, .any, .any, .any, .any, .any, .any, .any, .any, .any, .any, .any, .any, .any, .any, .any, .any, .any, .any, .any, .any, .any, .any, .any, .any, .any, .any, .any, .any, .any, .any, .any, .any, .any, .any, .any, .any, .any, .any, .any, .any, .any, .any, .any, .any, .any, .any, .any, .any, .any, .any, .any, .any, .any, .any, .any, .any, .any, .any, .any, .any, .any, .any, .any, .any, .any, .any, .any, .any, .any, .any, .any, .any, .any, .any, .any, .any, .any, .any, .any], [none, some (.box (.agg [.lit (.int .i64 n), .sl 9 (l.map ERule.e)])), none, none, some (.box (.agg [.lit (.int .i64 k), .lit (.int .i64 a), .lit (.int .i64 b), .lit (.int .i64 c), .lit (.int .i64 d), eQ e f, eQ g h])), none, none, none, none, none, none, none, none, none, none, none, none, none, none, none, none, none, none, none, none, none, none, none, none, none, none, none, none, none, none, none, none, none, none, none, none, none, none, none, none, none, none, none, none, none, none, none, none, none, none, none, none, none, none, none, none, none, none, none, none, none, none, none, none, none, none, none, none, none, none, none, none, none, none, none, none, none, none, none, none, none, none, none, none, none, none, none, none, none, none, none, none, none, none, none, none, none, none, none, none, none, none, none, none, none, none, none, none, none, none, none, none, none, none, none, none, none, none, none, none, none, none, none, none, none, none, none, none, none, none, none]⟩
def ssX4 (n : Int) (l : List RuleT) (j : Nat) (k a b c d e f g h : Int) : St := ⟨[.any, .obj 1 [] 0, .any, .dat (.lit (.int .i64 j)), .obj 4 [] 0, .dat (.sl 1 ((nmB k).map boolD)), .any, .any, .dat (.sl 2 [eQ e f, eQ g h]), .dat (.lit (.int .i64 2)), .any, .any, .any, .any, .any, .any, .any, .any, .any, .any, .any, .any, .any, .any, .any, .any, .any, .any, .any, .any, .any, .any, .any, .any, .any, .any, .any, .any, .any, .any, .any, .any, .any, .any, .any, .any, .any, .any, .any, .any, .any, .any, .any, .any, .any, .any, .any, .any, .any, .any, .any, .any, .any, .any, .any, .any, .any, .any, .any, .any, .any, .any, .any, .any, .any, .any, .any, .any, .any, .any, .any, .any, .any, .any, .any, .any, .any, .any, .dat (.lit (.int .i64 2)), .dat (.lit (.bool false)), .any, .any, .any, .any, .any, .any, .any, .any, .any, .any, .any, .any, .any, .any, .any, .any, .any, .any, .any, .any, .any, .any, .any, .any, .any, .any, .any, .any, .any, .any, .any, .any, .any, .any, .any, .any, .any, .any, .any, .any, .any, .any, .any, .any, .any, .any], [none, some (.box (.agg [.lit (.int .i64 n), .sl 9 (l.map ERule.e)])), none, none, some (.box (.agg [.lit (.int .i64 k), .lit (.int .i64 a), .lit (.int .i64 b), .lit (.int .i64 c), .lit (.int .i64 d), eQ e f, eQ g h])), none, none, none, none, none, none, none, none, none, none, none, none, none, none, none, none, none, none, none, none, none, none, none, none, none, none, none, none, none, none, none, none, none, none, none, none, none, none, none, none, none, none, none, none, none, none, none, none, none, none, none, none, none, none, none, none, none, none, none, none, none, none, none, none, none, none, none, none, none, none, none, none, none, none, none, none, none, none, none, none, none, none, none, none, none, none, none, none, none, none, none, none, none, none, none, none, none, none, none, none, none, none, none, none, none, none, none, none, none, none, none, none, none, none, none, none, none, none, none, none, none, none, none, none, none, none, none, none, none, none, none]⟩
set_option maxRecDepth 100000 in
set_option maxHeartbeats 4000000 in
theorem ss_ids {K : Exit → St → Prop} (n : Int) (l : List RuleT) (j : Nat) (k a b c d e f g h : Int) {st : St} (hn1 : 1 ≤ n) (hu : usN k ≠ 0) (h0 : Snd st (ssS2 n l j k a b c d e f g h 0)) (hT : (∀ z ∈ rI8 (k, a, b, c, d, (e, f), g, h), iOk8 n (nmK k) z) → K .normal (ssX2 n l j k a b c d e f g h)) (hF : ¬ (∀ z ∈ rI8 (k, a, b, c, d, (e, f), g, h), iOk8 n (nmK k) z) → ∀ s : St, s.get 2 = .dat (.lit (.bool false)) → K .ret s) : awp Try.prog (fun g => false) (tbl sSkTb) (.loop ssL2) st (Kblk 2 K) := by
  simp only [ssL2, ssP1, ssP0, Try.f6, Option.getD, sq1, sq2, inB, inL]
  have h6 := nmB_six hu
  refine loop_go (fun i s => ∃ m, i = 4 - m ∧ m ≤ 4 ∧ (∀ z ∈ (rI8 (k, a, b, c, d, (e, f), g, h)).take m, iOk8 n (nmK k) z) ∧ s = ssS2 n l j k a b c d e f g h m) (s0 := ssS2 n l j k a b c d e f g h 0) (n := 4) h0 ⟨0, rfl, by omega, by simp, rfl⟩ ?_
  rintro i s ⟨m, hi, hm, hall, rfl⟩ KN hN
  by_cases hh : m < 4
  · obtain ⟨u, v, hx, e1, e2⟩ := ids_at k a b c d (e, f) (g, h) hu m hh
    have hmem := List.mem_of_getElem? hx
    have w1 : IntKind.i64.wrap ((m : Int) + 1) = (m : Int) + 1 := i64_id _ (by omega) (by omega)
    have hh' : (m : Int) < 4 := by omega
    have hh6 : m < (nmB k).length := by omega
    by_cases c1 : u ∈ nmK k
    · by_cases c2 : 0 ≤ v ∧ v < n
      · have h4 := take_all9 hx hall (⟨c2.1, c2.2, .inl c1⟩ : iOk8 n (nmK k) (u, v))
        simp [-D.isLit, ssS2, hh, hh', hh6, h6, e1, e2, c1, c2, w1]
        exact hN _ (nx (m := 4 - (m + 1)) (s'' := ssS2 n l j k a b c d e f g h (m + 1)) (snd_obs (n := 136) [(1, 1, .box (.agg [.lit (.int .i64 n), .sl 9 (l.map ERule.e)])), (4, 4, .box (.agg [.lit (.int .i64 k), .lit (.int .i64 a), .lit (.int .i64 b), .lit (.int .i64 c), .lit (.int .i64 d), eQ e f, eQ g h]))] rfl (by simp) (by simp [ssS2])) ⟨m + 1, rfl, hh, h4, rfl⟩ (by omega))
      · have hF := hF (fun h => c2 ⟨(h _ hmem).1, (h _ hmem).2.1⟩)
        simp [-D.isLit, ssS2, hh, hh', hh6, h6, e1, e2, c1, decide_eq_false c2]
        exact hF _ rfl
    · by_cases c2 : v = 0
      · have h4 := take_all9 hx hall (⟨by simp; omega, by simp; omega, .inr c2⟩ : iOk8 n (nmK k) (u, v))
        simp [-D.isLit, ssS2, hh, hh', hh6, h6, e1, e2, c1, c2, w1]
        exact hN _ (nx (m := 4 - (m + 1)) (s'' := ssS2 n l j k a b c d e f g h (m + 1)) (snd_obs (n := 136) [(1, 1, .box (.agg [.lit (.int .i64 n), .sl 9 (l.map ERule.e)])), (4, 4, .box (.agg [.lit (.int .i64 k), .lit (.int .i64 a), .lit (.int .i64 b), .lit (.int .i64 c), .lit (.int .i64 d), eQ e f, eQ g h]))] rfl (by simp) (by simp [ssS2])) ⟨m + 1, rfl, hh, h4, rfl⟩ (by omega))
      · have hF := hF (fun h => by
          rcases (h _ hmem).2.2 with h | h
          · exact c1 h
          · exact c2 h)
        simp [-D.isLit, ssS2, hh, hh', hh6, h6, e1, e2, c1, c2]
        exact hF _ rfl
  · have hm4 : m = 4 := by omega
    subst hm4
    have hT := hT (fun z hz => hall z hz)
    simp [-D.isLit, ssS2]
    exact hT
set_option maxRecDepth 100000 in
set_option maxHeartbeats 4000000 in
theorem ss_qs {K : Exit → St → Prop} (n : Int) (l : List RuleT) (j : Nat) (k a b c d e f g h : Int) {st : St} (he64 : (I64 e ∧ I64 f) ∧ I64 g ∧ I64 h) (hu : usN k ≠ 0) (h0 : Snd st (ssS4 n l j k a b c d e f g h 0)) (hT : (∀ z ∈ rQ8 (k, a, b, c, d, (e, f), g, h), qO8 (nmK k) z) → K .normal (ssX4 n l j k a b c d e f g h)) (hF : ¬ (∀ z ∈ rQ8 (k, a, b, c, d, (e, f), g, h), qO8 (nmK k) z) → ∀ s : St, s.get 2 = .dat (.lit (.bool false)) → K .ret s) : awp Try.prog (fun g => false) (tbl sSkTb) (.loop ssL4) st (Kblk 4 K) := by
  simp only [ssL4, ssP1, ssP0, Try.f6, Option.getD, sq1, sq2, inB, inL]
  have h6 := nmB_six hu
  have h64 : ∀ z ∈ rQ8 (k, a, b, c, d, (e, f), g, h), I64 z.2.1 ∧ I64 z.2.2 := by
    intro z hz
    unfold rQ8 at hz
    simp at hz
    rcases hz with rfl | rfl
    · exact he64.1
    · exact he64.2
  refine loop_go (fun i s => ∃ m, i = 2 - m ∧ m ≤ 2 ∧ (∀ z ∈ (rQ8 (k, a, b, c, d, (e, f), g, h)).take m, qO8 (nmK k) z) ∧ s = ssS4 n l j k a b c d e f g h m) (s0 := ssS4 n l j k a b c d e f g h 0) (n := 2) h0 ⟨0, rfl, by omega, by simp, rfl⟩ ?_
  rintro i s ⟨m, hi, hm, hall, rfl⟩ KN hN
  by_cases hh : m < 2
  · obtain ⟨u, v, w, hx, e1, e2⟩ := qs_at k a b c d e f g h hu m hh
    have hmem := List.mem_of_getElem? hx
    have w1 : IntKind.i64.wrap ((m : Int) + 1) = (m : Int) + 1 := i64_id _ (by omega) (by omega)
    have w2 : IntKind.i64.wrap (4 + (m : Int)) = 4 + (m : Int) := i64_id _ (by omega) (by omega)
    have hh' : (m : Int) < 2 := by omega
    have hh6 : 4 + m < (nmB k).length := by omega
    have g1 : (4 + (m : Int)).toNat = 4 + m := by omega
    have g2 : (0 : Int) ≤ 4 + (m : Int) := by omega
    have g3 : 4 + (m : Int) < 6 := by omega
    have g4 : ¬ 4 + (m : Int) < 0 := by omega
    obtain ⟨i1, i2⟩ := h64 _ hmem
    have i1 : I64 v := i1
    have i2 : I64 w := i2
    have cq : qokC [.agg [.lit (.int .i64 v), .lit (.int .i64 w)]] = ((I64 v ∧ I64 w), [.lit (.bool (decide (qOk v w)))]) := qokC_at v w
    rw [eq_true (⟨i1, i2⟩ : I64 v ∧ I64 w)] at cq
    have ep := eqPre_Q9 v w 0 1 ⟨i1, i2⟩ (by unfold I64; omega)
    by_cases c1 : u ∈ nmK k
    · by_cases c2 : qOk v w
      · have h4 := take_all9 hx hall (by unfold qO8; rw [if_pos c1]; exact c2)
        simp [-D.isLit, ssS4, hh, hh', hh6, h6, e1, e2, c1, c2, cq, w1, w2, g1, g2, g3, g4]
        exact hN _ (nx (m := 2 - (m + 1)) (s'' := ssS4 n l j k a b c d e f g h (m + 1)) (snd_obs (n := 136) [(1, 1, .box (.agg [.lit (.int .i64 n), .sl 9 (l.map ERule.e)])), (4, 4, .box (.agg [.lit (.int .i64 k), .lit (.int .i64 a), .lit (.int .i64 b), .lit (.int .i64 c), .lit (.int .i64 d), eQ e f, eQ g h]))] rfl (by simp) (by simp [ssS4])) ⟨m + 1, rfl, hh, h4, rfl⟩ (by omega))
      · have hF := hF (fun h => by have := h _ hmem; unfold qO8 at this; rw [if_pos c1] at this; exact c2 this)
        simp [-D.isLit, ssS4, hh, hh', hh6, h6, e1, e2, c1, c2, cq, w1, w2, g1, g2, g3, g4]
        exact hF _ rfl
    · by_cases c2 : v = 0 ∧ w = 1
      · obtain ⟨rfl, rfl⟩ := c2
        have h4 := take_all9 (p := qO8 (nmK k)) hx hall (by unfold qO8; rw [if_neg c1])
        simp [-D.isLit, ssS4, hh, hh', hh6, h6, e1, e2, c1, cq, ep, w1, w2, g1, g2, g3, g4]
        exact hN _ (nx (m := 2 - (m + 1)) (s'' := ssS4 n l j k a b c d e f g h (m + 1)) (snd_obs (n := 136) [(1, 1, .box (.agg [.lit (.int .i64 n), .sl 9 (l.map ERule.e)])), (4, 4, .box (.agg [.lit (.int .i64 k), .lit (.int .i64 a), .lit (.int .i64 b), .lit (.int .i64 c), .lit (.int .i64 d), eQ e f, eQ g h]))] rfl (by simp) (by simp [ssS4])) ⟨m + 1, rfl, hh, h4, rfl⟩ (by omega))
      · have hF := hF (fun h => by have := h _ hmem; unfold qO8 at this; rw [if_neg c1] at this; injection this with h1 h2; exact c2 ⟨h1, h2⟩)
        by_cases c3 : v = 0
        · have c4 : w ≠ 1 := fun h => c2 ⟨c3, h⟩
          subst c3
          simp [-D.isLit, ssS4, hh, hh', hh6, h6, e1, e2, c1, c4, cq, ep, w1, w2, g1, g2, g3, g4]
          exact hF _ rfl
        · simp [-D.isLit, ssS4, hh, hh', hh6, h6, e1, e2, c1, c3, cq, ep, w1, w2, g1, g2, g3, g4]
          exact hF _ rfl
  · have hm4 : m = 2 := by omega
    subst hm4
    have hT := hT (fun z hz => hall z hz)
    simp [-D.isLit, ssS4]
    exact hT
end Go.Proofs.Ytojbfdkpelldoaa.Ae

namespace Go.Proofs.Ytojbfdkpelldoaa.Ae
open Go Go.RowKit Go.Proofs.Ytojbfdkpelldoaa.Dig
def ssS (n : Int) (l : List RuleT) (j : Nat) : St := ⟨[.any, .obj 1 [] 0, .any, .dat (.lit (.int .i64 j)), .any, .any, .any, .any, .any, .any, .any, .any, .any, .any, .any, .any, .any, .any, .any, .any, .any, .any, .any, .any, .any, .any, .any, .any, .any, .any, .any, .any, .any, .any, .any, .any, .any, .any, .any, .any, .any, .any, .any, .any, .any, .any, .any, .any, .any, .any, .any, .any, .any, .any, .any, .any, .any, .any, .any, .any, .any, .any, .any, .any, .any, .any, .any, .any, .any, .any, .any, .any, .any, .any, .any, .any, .any, .any, .any, .any, .any, .any, .any, .any, .any, .any, .any, .any, .any, .any, .any, .any, .any, .any, .any, .any, .any, .any, .any, .any, .any, .any, .any, .any, .any, .any, .any, .any, .any, .any, .any, .any, .any, .any, .any, .any, .any, .any, .any, .any, .any, .any, .any, .any, .any, .any, .any, .any, .any, .any, .any, .any, .any, .any, .any, .any], [none, some (.box (.agg [.lit (.int .i64 n), .sl 9 (l.map ERule.e)])), none, none, none, none, none, none, none, none, none, none, none, none, none, none, none, none, none, none, none, none, none, none, none, none, none, none, none, none, none, none, none, none, none, none, none, none, none, none, none, none, none, none, none, none, none, none, none, none, none, none, none, none, none, none, none, none, none, none, none, none, none, none, none, none, none, none, none, none, none, none, none, none, none, none, none, none, none, none, none, none, none, none, none, none, none, none, none, none, none, none, none, none, none, none, none, none, none, none, none, none, none, none, none, none, none, none, none, none, none, none, none, none, none, none, none, none, none, none, none, none, none, none, none, none, none, none, none, none, none, none, none, none, none, none]⟩
set_option maxRecDepth 100000 in
set_option maxHeartbeats 4000000 in
theorem sSk_spec : SpecD NF Try.prog 6 skOkC := by
  refine rd1 (mf := fun g => false) sSkTb_ok (fn := Try.f6) (by kernel_rfl) rfl (by kernel_rfl) (by kernel_rfl) ?_
  rintro ⟨n, l⟩ ⟨⟨hn64, _, h64⟩, hlen⟩
  have hlen : l.length < 1048577 := hlen
  have h64 : ∀ x ∈ l, Rule64 x := h64
  generalize hr : skB (n, l) = r
  show awp _ _ _ _ (start _ ([.agg [.lit (.int .i64 n), .sl 9 (l.map ERule.e)]].map .dat) []) (endK _ _ _ ([D.lit (.bool r)].map .dat) [])
  simp only [Try.f6]
  by_cases h1 : n < 1
  · have er : r = false := by rw [← hr]; exact skB_bad (by omega)
    subst er
    simp [-D.isLit, h1]
  by_cases h2 : 8 < n
  · have er : r = false := by rw [← hr]; exact skB_bad (by omega)
    subst er
    simp [-D.isLit, h1, h2]
  by_cases h3 : 16 < l.length
  · have er : r = false := by rw [← hr]; exact skB_long (by omega)
    subst er
    have h3' : (16 : Int) < l.length := by omega
    simp [-D.isLit, h1, h2, h3, h3']
  have h3' : ¬ (16 : Int) < l.length := by omega
  have hr : l.all (rB n) = r := by rw [← hr]; exact (skB_all (by omega) (by omega)).symm
  simp [-D.isLit, h1, h2, h3, h3']
  refine loop_go (fun m st => ∃ j, m = l.length - j ∧ j ≤ l.length ∧ (∀ y ∈ l.take j, rB n y = true) ∧ st = ssS n l j) (s0 := ssS n l 0) (n := l.length) (snd_obs (n := 136) [(1, 1, .box (.agg [.lit (.int .i64 n), .sl 9 (l.map ERule.e)]))] rfl (by simp) (by simp [ssS])) ⟨0, rfl, Nat.zero_le _, by simp, rfl⟩ ?_
  rintro m st ⟨j, hm, hj, hall, rfl⟩ KN hN
  by_cases hh : j < l.length
  case neg =>
    have hjl : j = l.length := by omega
    subst hjl
    rw [List.take_length] at hall
    have er : r = true := by rw [← hr]; exact List.all_eq_true.2 hall
    subst er
    simp [-D.isLit, ssS]
  obtain ⟨⟨k, a, b, c, d, ⟨e, f⟩, g, h⟩, hx, e1, hmem⟩ := at8 (E := ERule.e) hh
  have hj64 := h64 _ hmem
  obtain ⟨⟨i1, i2, i3, i4, i5⟩, ⟨i6, i7⟩, i8, i9⟩ := hj64
  have i1 : I64 k := i1
  have he64 : (I64 e ∧ I64 f) ∧ I64 g ∧ I64 h := ⟨⟨i6, i7⟩, i8, i9⟩
  clear i2 i3 i4 i5 i6 i7 i8 i9
  obtain ⟨a1, a2⟩ := all_drop9 (rB n) l j _ hx hall
  have w1 : IntKind.i64.wrap ((j : Int) + 1) = (j : Int) + 1 := i64_id _ (by omega) (by omega)
  have e1 : ix (l.map ERule.e) j = some (.agg [.lit (.int .i64 k), .lit (.int .i64 a), .lit (.int .i64 b), .lit (.int .i64 c), .lit (.int .i64 d), eQ e f, eQ g h]) := e1
  by_cases c0 : usN k = 0
  · have er : r = false := by rw [← hr]; exact a1 (rB_no fun h => h.1 c0)
    subst er
    have hl0 := (nmB_usN k).1 c0
    have hl0 : nmB k = [] := List.length_eq_zero_iff.1 hl0
    simp [-D.isLit, ssS, hh, e1, hl0]
  have h6 := nmB_six c0
  have h6' : nmB k ≠ [] := fun h => by rw [h] at h6; cases h6
  simp [-D.isLit, ssS, hh, e1, h6, h6']
  refine ss_ids n l j k a b c d e f g h (by omega) c0 (snd_obs (n := 136) [(1, 1, .box (.agg [.lit (.int .i64 n), .sl 9 (l.map ERule.e)])), (4, 4, .box (.agg [.lit (.int .i64 k), .lit (.int .i64 a), .lit (.int .i64 b), .lit (.int .i64 c), .lit (.int .i64 d), eQ e f, eQ g h]))] rfl (by simp) (by simp [ssS2])) (fun q1 => ?_) (fun q1 s hs => ?_)
  rotate_left
  · have er : r = false := by rw [← hr]; exact a1 (rB_no fun h => q1 h.2.1)
    subst er
    simp [-D.isLit, hs]
  simp [-D.isLit, ssX2]
  refine ss_qs n l j k a b c d e f g h he64 c0 (snd_obs (n := 136) [(1, 1, .box (.agg [.lit (.int .i64 n), .sl 9 (l.map ERule.e)])), (4, 4, .box (.agg [.lit (.int .i64 k), .lit (.int .i64 a), .lit (.int .i64 b), .lit (.int .i64 c), .lit (.int .i64 d), eQ e f, eQ g h]))] rfl (by simp) (by simp [ssS4])) (fun q2 => ?_) (fun q2 s hs => ?_)
  rotate_left
  · have er : r = false := by rw [← hr]; exact a1 (rB_no fun h => q2 h.2.2.1)
    subst er
    simp [-D.isLit, hs]
  by_cases c1 : k = 9 ∧ e = 0 ∧ g = 0
  · have er : r = false := by rw [← hr]; exact a1 (rB_no fun h => h.2.2.2 c1)
    subst er
    obtain ⟨rfl, rfl, rfl⟩ := c1
    simp [-D.isLit, ssX4]
  have a2 := a2 (rB_yes ⟨c0, q1, q2, c1⟩)
  by_cases c2 : k = 9
  · by_cases c3 : e = 0
    · have c4 : g ≠ 0 := fun h => c1 ⟨c2, c3, h⟩
      simp [-D.isLit, ssX4, c2, c3, c4, w1]
      exact hN _ (nx (m := l.length - (j + 1)) (s'' := ssS n l (j + 1)) (snd_obs (n := 136) [(1, 1, .box (.agg [.lit (.int .i64 n), .sl 9 (l.map ERule.e)]))] rfl (by simp) (by simp [ssS])) ⟨j + 1, rfl, hh, a2, rfl⟩ (by omega))
    · simp [-D.isLit, ssX4, c2, c3, w1]
      exact hN _ (nx (m := l.length - (j + 1)) (s'' := ssS n l (j + 1)) (snd_obs (n := 136) [(1, 1, .box (.agg [.lit (.int .i64 n), .sl 9 (l.map ERule.e)]))] rfl (by simp) (by simp [ssS])) ⟨j + 1, rfl, hh, a2, rfl⟩ (by omega))
  · simp [-D.isLit, ssX4, c2, w1]
    exact hN _ (nx (m := l.length - (j + 1)) (s'' := ssS n l (j + 1)) (snd_obs (n := 136) [(1, 1, .box (.agg [.lit (.int .i64 n), .sl 9 (l.map ERule.e)]))] rfl (by simp) (by simp [ssS])) ⟨j + 1, rfl, hh, a2, rfl⟩ (by omega))
theorem sSk_ok : callable Try.prog 6 = true := by kernel_rfl
noncomputable def lwSkC := ct1 ESk sk64 (fun p => [.lit (.bool true)])
theorem lwSkC_at (n : Int) (l : List RuleT) : lwSkC [.agg [.lit (.int .i64 n), .sl 9 (l.map ERule.e)]] = (sk64 (n, l), [.lit (.bool true)]) := ct1_at (A := ESk) (n, l)
noncomputable def lwSkTb : List (FuncId × Ct) := [(5, .data szSkC), (7, .data toSkC), (8, .data skOkC), (6, .data skOkC), (9, .data eqSkC)]
theorem lwSkTb_ok : TbOK NF Try.prog (tbl lwSkTb) := tbl_cons (c := .data szSkC) szSk_spec szSk_ok (tbl_cons (c := .data toSkC) toSk_spec toSk_ok (tbl_cons (c := .data skOkC) iSk_spec iSk_ok (tbl_cons (c := .data skOkC) sSk_spec sSk_ok (tbl_cons (c := .data eqSkC) eqSk_spec eqSk_ok tbl_nil))))
@[simp] theorem lwSkTb1 : tbl lwSkTb 5 = some (.data szSkC) := rfl
@[simp] theorem lwSkTb2 : tbl lwSkTb 7 = some (.data toSkC) := rfl
@[simp] theorem lwSkTb3 : tbl lwSkTb 8 = some (.data skOkC) := rfl
@[simp] theorem lwSkTb4 : tbl lwSkTb 6 = some (.data skOkC) := rfl
@[simp] theorem lwSkTb5 : tbl lwSkTb 9 = some (.data eqSkC) := rfl
set_option maxRecDepth 100000 in
theorem lwSk_spec : SpecD NF Try.prog 3 lwSkC := by
  refine rd1 (mf := fun f => false) lwSkTb_ok (fn := Try.f3) (by kernel_rfl) rfl (by kernel_rfl) (by kernel_rfl) ?_
  rintro ⟨n, l⟩ h64
  have hl2 : l.length ≤ 9223372036854775807 := h64.2.1
  have c0 := szSkC_at n l 1048576
  show awp _ _ _ _ (start _ ([.agg [.lit (.int .i64 n), .sl 9 (l.map ERule.e)]].map .dat) []) (endK _ _ _ ([D.lit (.bool true)].map .dat) [])
  rw [eq_true (⟨hl2, by omega, by omega⟩ : l.length ≤ 9223372036854775807 ∧ (0 : Int) ≤ 1048576 ∧ (1048576 : Int) < 4611686018427387904)] at c0
  by_cases h : (1048576 : Int) < l.length
  · have e1 : szL8 l.length 1048576 = -1 := by unfold szL8; rw [if_pos h]
    rw [e1] at c0
    simp [-D.isLit, -szSkC_at, Try.f3, c0]
  · have e1 : szL8 l.length 1048576 = 1048576 - l.length := by unfold szL8; rw [if_neg h]
    rw [e1] at c0
    have h' : ¬ (1048576 : Int) - l.length < 0 := by omega
    have hs : l.length < 1048577 := by omega
    have c1 := skOkC_at n l
    have h64 : sk64 (n, l) := h64
    rw [eq_true (⟨h64, hs⟩ : sk64 (n, l) ∧ l.length < 1048577)] at c1
    generalize skB (n, l) = r at c1
    simp [-D.isLit, -Int.sub_nonneg, -szSkC_at, -skOkC_at, Try.f3, c0, h', hs, c1]
set_option maxRecDepth 100000 in
theorem lwSketchOk_calls {d0 : D} (s0 : shp Try.prog 8 24 d0) {v0 : Value} {w : World} (hrep : RepVs NF (fun b => b < w.heap.size) w [d0] [v0]) :
    Calls Try.prog 3 #[v0] w fun e w' => e = .returned (.bool true) ∧ Below w.heap.size w w' := by
  obtain ⟨⟨n, l⟩, rfl, hp⟩ := shp_Sk (n := 3) s0
  exact law_callsM lwSk_spec (ds := [.agg [.lit (.int .i64 n), .sl 9 (l.map ERule.e)]]) (by rw [lwSkC_at]; exact hp) (by rw [lwSkC_at]; rfl) (vs := [v0]) hrep
end Go.Proofs.Ytojbfdkpelldoaa.Ae
