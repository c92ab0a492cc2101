/- Of our texts what the law leans on, in the order in which they build: T83, T84, T85. No condition. -/
import Derived.Test.YtojbfdkpelldoaaZH3
set_option linter.unusedVariables false
set_option linter.unusedSimpArgs false
namespace Go.Proofs.Ytojbfdkpelldoaa.Ae
open Go Go.RowKit Go.Proofs.Ytojbfdkpelldoaa.Dig
noncomputable def iHoTb : List (FuncId × Ct) := [(32, .data allQC), (33, .data needsC), (34, .mp 81 hasS64G), (35, .mp 81 putS64G)]
theorem iHoTb_ok : TbOK NF Try.prog (tbl iHoTb) := tbl_cons (c := .data allQC) allQ_spec allQ_ok (tbl_cons (c := .data needsC) needs_spec needs_ok (tbl_cons (c := .mp 81 hasS64G) hasS64_spec hasS64_ok (tbl_cons (c := .mp 81 putS64G) putS64_spec putS64_ok tbl_nil)))
@[simp] theorem iHoTb1 : tbl iHoTb 32 = some (.data allQC) := rfl
@[simp] theorem iHoTb2 : tbl iHoTb 33 = some (.data needsC) := rfl
@[simp] theorem iHoTb3 : tbl iHoTb 34 = some (.mp 81 hasS64G) := rfl
@[simp] theorem iHoTb4 : tbl iHoTb 35 = some (.mp 81 putS64G) := rfl
@[simp] theorem lit_lit8 (v : Value) : (D.lit v).isLit = true := rfl
theorem all8 {α : Type} (p : α → Bool) (l : List α) (k : Nat) (x : α) (h : l[k]? = some x) (hb : ∀ y ∈ l.take k, p y = true) : (p x = false → l.all p = false) ∧ (p x = true → ∀ y ∈ l.take (k + 1), p y = true) := all_drop p l k x h hb
def iHoS (v : List (Int × Int)) (f : List FeatT) (last : Int) (ks : List Int) (j : Nat) : St := ⟨[.any, .obj 1 [] 0, .any, .mpx 27, .dat (.lit (.int .i64 last)), .any, .any, .any, .any, .any, .any, .any, .any, .any, .any, .any, .any, .any, .any, .any, .any, .any, .any, .any, .any, .any, .any, .any, .any, .dat (.sl 6 (f.map EFeat.e)), .dat (.lit (.int .i64 f.length)), .dat (.lit (.int .i64 j)), .any, .any, .any, .any, .any, .any, .any, .any, .any, .any, .any, .any, .any, .any, .any, .any, .any, .any, .any, .any, .any, .any, .any, .any, .any, .any, .any, .any, .any, .any, .any, .any, .any, .any, .any, .any, .any, .any, .any, .any, .any, .any, .any, .any, .any, .any, .any, .any, .any, .any, .any, .any, .any, .any, .any, .any, .any, .any, .any, .any, .any, .any, .any, .any, .any, .any, .any, .any, .any, .any, .any, .any, .any, .any, .any, .any, .any, .any, .any, .any, .any, .any, .any, .any, .any, .any, .any, .any, .any, .any, .any, .any, .any, .any, .any, .any, .any, .any, .any, .any, .any, .any, .any, .any, .any, .any, .any, .any, .any], [none, some (.box (.agg [.sl 2 (v.map EQ.e), .sl 6 (f.map EFeat.e)])), none, none, none, none, none, none, none, none, none, none, none, none, none, none, none, none, none, none, none, none, none, none, none, none, none, some (.mp 81 (ks.map (Value.int .i64))), none, none, none, none, none, none, none, none, none, none, none, none, none, none, none, none, none, none, none, none, none, none, none, none, none, none, none, none, none, none, none, none, none, none, none, none, none, none, none, none, none, none, none, none, none, none, none, none, none, none, none, none, none, none, none, none, none, none, none, none, none, none, none, none, none, none, none, none, none, none, none, none, none, none, none, none, none, none, none, none, none, none, none, none, none, none, none, none, none, none, none, none, none, none, none, none, none, none, none, none, none, none, none, none, none, none, none, none, none, none, none, none, none]⟩
def iHoT (v : List (Int × Int)) (f : List FeatT) (last : Int) (ks : List Int) (j : Nat) (a k : Int) (o : Bool) (x y : Int) (l : List TermT) (i : Nat) : St := ⟨[.any, .obj 1 [] 0, .any, .mpx 27, .dat (.lit (.int .i64 last)), .any, .obj 6 [] 0, .any, .any, .any, .any, .any, .any, .any, .any, .any, .any, .any, .any, .any, .any, .any, .any, .any, .any, .any, .any, .any, .any, .dat (.sl 6 (f.map EFeat.e)), .dat (.lit (.int .i64 f.length)), .dat (.lit (.int .i64 j)), .any, .any, .any, .any, .any, .any, .any, .any, .any, .any, .any, .any, .any, .any, .any, .any, .any, .any, .any, .any, .any, .any, .any, .any, .any, .any, .any, .any, .any, .any, .any, .any, .any, .any, .any, .any, .any, .any, .any, .any, .any, .any, .any, .any, .any, .any, .any, .any, .any, .any, .any, .any, .any, .any, .any, .any, .any, .any, .any, .any, .any, .any, .any, .any, .dat (.sl 5 (l.map ETerm.e)), .dat (.lit (.int .i64 l.length)), .dat (.lit (.int .i64 i)), .any, .any, .any, .any, .any, .any, .any, .any, .any, .any, .any, .any, .any, .any, .any, .any, .any, .any, .any, .any, .any, .any, .any, .any, .any, .any, .any, .any, .any, .any, .any, .any, .any, .any, .any, .any, .any, .any, .any, .any, .any, .any], [none, some (.box (.agg [.sl 2 (v.map EQ.e), .sl 6 (f.map EFeat.e)])), none, none, none, none, some (.box (.agg [.lit (.int .i64 a), .lit (.int .i64 k), .lit (.bool o), .lit (.int .i64 x), .lit (.int .i64 y), .sl 5 (l.map ETerm.e)])), none, none, none, none, none, none, none, none, none, none, none, none, none, none, none, none, none, none, none, none, some (.mp 81 (ks.map (Value.int .i64))), none, none, none, none, none, none, none, none, none, none, none, none, none, none, none, none, none, none, none, none, none, none, none, none, none, none, none, none, none, none, none, none, none, none, none, none, none, none, none, none, none, none, none, none, none, none, none, none, none, none, none, none, none, none, none, none, none, none, none, none, none, none, none, none, none, none, none, none, none, none, none, none, none, none, none, none, none, none, none, none, none, none, none, none, none, none, none, none, none, none, none, none, none, none, none, none, none, none, none, none, none, none, none, none, none, none, none, none, none, none, none, none, none]⟩
theorem allQ2_8 (b c d e : Int) (h1 : I64 b ∧ I64 c) (h2 : I64 d ∧ I64 e) : allQC [.sl 2 [eQ b c, eQ d e]] = (True, [.lit (.bool (decide (qOk b c) && decide (qOk d e)))]) := by
  have h := allQC_at [(b, c), (d, e)]
  have hp : (([(b, c), (d, e)] : List (Int × Int)).length < 4611686018427387904 ∧ ∀ q ∈ [(b, c), (d, e)], I64p q) := ⟨by simp, by
    intro q hq
    simp at hq
    rcases hq with rfl | rfl
    · exact h1
    · exact h2⟩
  rw [eq_true hp] at h
  simp [boolD] at h
  exact h
set_option maxRecDepth 100000 in
set_option maxHeartbeats 4000000 in
theorem iHo_spec : SpecD NF Try.prog 13 hOkC := by
  refine rd1 (mf := fun g => g == 34 || g == 35) iHoTb_ok (fn := Try.f13) (by kernel_rfl) rfl (by kernel_rfl) (by kernel_rfl) ?_
  rintro ⟨v, f⟩ ⟨⟨hs1, hs2, hs3⟩, ⟨_, hv64⟩, _, hf64⟩
  have hs1 : v.length < 1048577 := hs1
  have hs2 : f.length < 1048577 := hs2
  have hv64 : ∀ q ∈ v, I64p q := hv64
  have hf64 : ∀ p ∈ f, Feat64 p := hf64
  have hs3 : ∀ p ∈ f, featS p := hs3
  generalize hr : histB (v, f) = r
  show awp _ _ _ _ (start _ ([.agg [.sl 2 (v.map EQ.e), .sl 6 (f.map EFeat.e)]].map .dat) []) (endK _ _ _ ([D.lit (.bool r)].map .dat) [])
  have cv := allQ_8 v
  rw [eq_true (⟨by omega, hv64⟩ : v.length < 4611686018427387904 ∧ ∀ q ∈ v, I64p q)] at cv
  simp only [Try.f13]
  by_cases h1 : 6 < v.length
  · have er : r = false := by rw [← hr]; unfold histB; rw [decide_eq_false (show ¬ v.length ≤ 6 by omega)]; rfl
    subst er
    have h1' : (6 : Int) < v.length := by omega
    simp [-D.isLit, h1, h1']
  have h1' : ¬ (6 : Int) < v.length := by omega
  have h1'' : (v.length : Int) ≤ 6 := by omega
  have hr : (decide (f.length ≤ 8) && (v.all qB8 && histL v.length 0 [] f)) = r := by rw [← hr]; unfold histB; rw [decide_eq_true (show v.length ≤ 6 by omega), Bool.true_and]
  cases hq : v.all qB8
  · have er : r = false := by rw [← hr, hq]; simp
    subst er
    rw [hq] at cv
    simp [-D.isLit, h1, h1', h1'', cv]
  rw [hq] at cv
  by_cases h2 : 8 < f.length
  · have er : r = false := by rw [← hr, decide_eq_false (show ¬ f.length ≤ 8 by omega)]; rfl
    subst er
    have h2' : (8 : Int) < f.length := by omega
    simp [-D.isLit, h1, h1', h1'', cv, h2, h2']
  have h2' : ¬ (8 : Int) < f.length := by omega
  have h2'' : (f.length : Int) ≤ 8 := by omega
  have hr : histL v.length 0 [] f = r := by rw [← hr, decide_eq_true (show f.length ≤ 8 by omega), hq]; rfl
  simp [-D.isLit, h1, h1', h1'', cv, h2, h2', h2'']
  refine loop_go (fun n st => ∃ p q last ks, f = p ++ q ∧ n = q.length ∧ ks.length = p.length ∧ I64 last ∧ histL v.length last ks q = r ∧ st = iHoS v f last ks p.length) (s0 := iHoS v f 0 [] 0) (n := f.length) (snd_obs (n := 141) [(1, 1, .box (.agg [.sl 2 (v.map EQ.e), .sl 6 (f.map EFeat.e)])), (27, 27, .mp 81 [])] rfl (by simp) (by simp [iHoS])) ⟨[], f, 0, [], rfl, rfl, rfl, by unfold I64; omega, hr, rfl⟩ ?_
  rintro n st ⟨p, q, last, ks, hpq, rfl, hkl, h64l, hr, rfl⟩ KN hN
  cases q with
  | nil =>
    have e0 : p.length = f.length := by rw [hpq]; simp
    have er : r = true := hr.symm
    subst er
    simp [-D.isLit, iHoS, e0]
  | cons z q =>
    have hz := hf64 z (by rw [hpq]; simp)
    have hzs := hs3 z (by rw [hpq]; simp)
    obtain ⟨a, k, o, x, y, l⟩ := z
    obtain ⟨⟨i1, i2, i3, i4⟩, hl64, ht64⟩ := hz
    have i1 : I64 a := i1
    have i2 : I64 k := i2
    have i3 : I64 x := i3
    have i4 : I64 y := i4
    have hl : l.length < 1048577 := hzs
    have ht64 : ∀ t ∈ l, Term64 t := ht64
    have il : I64 (l.length : Int) := by unfold I64; omega
    have e0 : p.length < f.length := by rw [hpq]; simp
    have e1 : ix (f.map EFeat.e) p.length = some (.agg [.lit (.int .i64 a), .lit (.int .i64 k), .lit (.bool o), .lit (.int .i64 x), .lit (.int .i64 y), .sl 5 (l.map ETerm.e)]) := by rw [hpq, List.map_append, List.map_cons]; exact ix_mem8 (by simp)
    have hr : ((decide (ndOk k l.length) && (decide (last < a ∧ a ≤ 1000) && (decide (useOk (ndK k) ks x y) && l.all (termB v.length)))) && histL v.length a (ks ++ [a]) q) = r := hr
    have w1 : IntKind.i64.wrap ((p.length : Int) + 1) = (p.length : Int) + 1 := i64_id _ (by omega) (by omega)
    by_cases c1 : ndOk k l.length
    case neg =>
      have er : r = false := by rw [← hr, decide_eq_false c1]; rfl
      subst er
      simp [-D.isLit, iHoS, e0, e1, il, c1]
    by_cases c2 : a ≤ last
    · have er : r = false := by rw [← hr, decide_eq_false (show ¬ (last < a ∧ a ≤ 1000) by omega)]; simp
      subst er
      simp [-D.isLit, iHoS, e0, e1, il, c1, c2]
    by_cases c3 : 1000 < a
    · have er : r = false := by rw [← hr, decide_eq_false (show ¬ (last < a ∧ a ≤ 1000) by omega)]; simp
      subst er
      simp [-D.isLit, iHoS, e0, e1, il, c1, c2, c3]
    have hr : ((decide (useOk (ndK k) ks x y) && l.all (termB v.length)) && histL v.length a (ks ++ [a]) q) = r := by
      rw [← hr, decide_eq_true c1, decide_eq_true (show last < a ∧ a ≤ 1000 by omega)]; rfl
    have hn : ndK k = 0 ∨ ndK k = 1 ∨ ndK k = 2 := by unfold ndK; split <;> (try split) <;> simp
    rcases hn with hn | hn | hn
    · have c4 : useOk (ndK k) ks x y ↔ (x = 0 ∧ y = 0) := by rw [hn]; unfold useOk; simp
      by_cases d1 : x = 0
      case neg =>
        have er : r = false := by rw [← hr, decide_eq_false (fun h => d1 (c4.1 h).1)]; rfl
        subst er
        simp [-D.isLit, iHoS, e0, e1, il, i3, i4, c1, c2, c3, hn, d1]
      by_cases d2 : y = 0
      case neg =>
        have er : r = false := by rw [← hr, decide_eq_false (fun h => d2 (c4.1 h).2)]; rfl
        subst er
        simp [-D.isLit, iHoS, e0, e1, il, i3, i4, c1, c2, c3, hn, d1, d2]
      have hr : (l.all (termB v.length) && histL v.length a (ks ++ [a]) q) = r := by rw [← hr, decide_eq_true (c4.2 ⟨d1, d2⟩)]; rfl
      simp [-D.isLit, iHoS, e0, e1, il, i3, i4, c1, c2, c3, hn, d1, d2]
      refine loop_go (fun n st => ∃ i, n = l.length - i ∧ i ≤ l.length ∧ (∀ t ∈ l.take i, termB v.length t = true) ∧ st = iHoT v f last ks p.length a k o x y l i) (s0 := iHoT v f last ks p.length a k o x y l 0) (n := l.length) (snd_obs (n := 141) [(1, 1, .box (.agg [.sl 2 (v.map EQ.e), .sl 6 (f.map EFeat.e)])), (6, 6, .box (.agg [.lit (.int .i64 a), .lit (.int .i64 k), .lit (.bool o), .lit (.int .i64 x), .lit (.int .i64 y), .sl 5 (l.map ETerm.e)])), (27, 27, .mp 81 (ks.map (Value.int .i64)))] rfl (by simp [d1, d2]) (by simp [iHoT])) ⟨0, rfl, Nat.zero_le _, by simp, rfl⟩ ?_
      rintro n st ⟨i, hni, hi, hall, rfl⟩ KN2 hN2
      by_cases h : i < l.length
      · obtain ⟨⟨g, ⟨b, c⟩, d, e⟩, hx, e2, hmem⟩ := at8 (E := ETerm.e) h
        obtain ⟨j1, ⟨j2, j3⟩, j4, j5⟩ := ht64 _ hmem
        have j1 : I64 g := j1
        have j2 : I64 b := j2
        have j3 : I64 c := j3
        have j4 : I64 d := j4
        have j5 : I64 e := j5
        obtain ⟨a1, a2⟩ := all8 (termB v.length) l i _ hx hall
        have w2 : IntKind.i64.wrap ((i : Int) + 1) = (i : Int) + 1 := i64_id _ (by omega) (by omega)
        have cq : allQC [.sl 2 [.agg [.lit (.int .i64 b), .lit (.int .i64 c)], eQ d e]] = (True, [.lit (.bool (decide (qOk b c) && decide (qOk d e)))]) := allQ2_8 b c d e ⟨j2, j3⟩ ⟨j4, j5⟩
        have e2 : ix (l.map ETerm.e) i = some (.agg [.lit (.int .i64 g), .agg [.lit (.int .i64 b), .lit (.int .i64 c)], eQ d e]) := e2
        have ep := eqPre_Q b c 0 1 ⟨j2, j3⟩ (by unfold I64; omega)
        by_cases hok : termOk v.length g b c d e
        · have a3 := a2 (decide_eq_true hok)
          obtain ⟨k1, k2, k3, k4, k5⟩ := hok
          have k1' : ¬ g < -1 := by omega
          have k2' : ¬ (v.length : Int) ≤ g := by omega
          by_cases k6 : g = -1
          · obtain ⟨k7, k8⟩ := k5 k6
            subst k6 k7 k8
            simp [-D.isLit, -z_all2, iHoT, h, e2, k1', k2', k3, k4, cq, ep, w2]
            exact hN2 _ (nx (m := l.length - (i + 1)) (s'' := iHoT v f last ks p.length a k o x y l (i + 1)) (snd_obs (n := 141) [(1, 1, .box (.agg [.sl 2 (v.map EQ.e), .sl 6 (f.map EFeat.e)])), (6, 6, .box (.agg [.lit (.int .i64 a), .lit (.int .i64 k), .lit (.bool o), .lit (.int .i64 x), .lit (.int .i64 y), .sl 5 (l.map ETerm.e)])), (27, 27, .mp 81 (ks.map (Value.int .i64)))] rfl (by simp) (by simp [iHoT])) ⟨i + 1, rfl, h, a3, rfl⟩ (by omega))
          · simp [-D.isLit, -z_all2, iHoT, h, e2, k1', k2', k3, k4, k6, cq, ep, w2]
            exact hN2 _ (nx (m := l.length - (i + 1)) (s'' := iHoT v f last ks p.length a k o x y l (i + 1)) (snd_obs (n := 141) [(1, 1, .box (.agg [.sl 2 (v.map EQ.e), .sl 6 (f.map EFeat.e)])), (6, 6, .box (.agg [.lit (.int .i64 a), .lit (.int .i64 k), .lit (.bool o), .lit (.int .i64 x), .lit (.int .i64 y), .sl 5 (l.map ETerm.e)])), (27, 27, .mp 81 (ks.map (Value.int .i64)))] rfl (by simp) (by simp [iHoT])) ⟨i + 1, rfl, h, a3, rfl⟩ (by omega))
        · have er : r = false := by rw [← hr, a1 (decide_eq_false hok)]; rfl
          subst er
          by_cases k1 : g < -1
          · simp [-D.isLit, -z_all2, iHoT, h, e2, k1]
          by_cases k2 : (v.length : Int) ≤ g
          · simp [-D.isLit, -z_all2, iHoT, h, e2, k1, k2]
          by_cases k3 : qOk b c ∧ qOk d e
          · have k6 : g = -1 := by
              apply Classical.byContradiction; intro hg
              exact hok ⟨by omega, by omega, k3.1, k3.2, fun h => absurd h hg⟩
            have k7 : ¬ (b = 0 ∧ c = 1) := fun h => hok ⟨by omega, by omega, k3.1, k3.2, fun _ => h⟩
            subst k6
            by_cases k8 : b = 0
            · have k9 : c ≠ 1 := fun h => k7 ⟨k8, h⟩
              simp [-D.isLit, -z_all2, iHoT, h, e2, k2, k3.1, k3.2, cq, ep, k9]
            · simp [-D.isLit, -z_all2, iHoT, h, e2, k2, k3.1, k3.2, cq, ep, k8]
          · have k3' : (decide (qOk b c) && decide (qOk d e)) = false := by rw [← Bool.decide_and]; exact decide_eq_false k3
            rw [k3'] at cq
            simp [-D.isLit, -z_all2, iHoT, h, e2, k1, k2, cq]
      · have hil : i = l.length := by omega
        subst hil
        rw [List.take_length] at hall
        have hr : histL v.length a (ks ++ [a]) q = r := by rw [← hr, List.all_eq_true.2 hall]; rfl
        have hks : ks.length < maxLen := by unfold maxLen; omega
        simp [-D.isLit, iHoT, w1, i1, hks]
        refine hN _ (nx (m := q.length) (s'' := iHoS v f a (ks ++ [a]) (p ++ [(a, k, o, x, y, l)]).length) (snd_obs (n := 141) [(1, 1, .box (.agg [.sl 2 (v.map EQ.e), .sl 6 (f.map EFeat.e)])), (27, 27, .mp 81 ((ks ++ [a]).map (Value.int .i64)))] rfl (by simp) (by simp [iHoS])) ⟨p ++ [(a, k, o, x, y, l)], q, a, ks ++ [a], by rw [hpq]; simp, rfl, by simp [hkl], i1, hr, rfl⟩ (by simp))
    · have c4 : useOk (ndK k) ks x y ↔ (x ∈ ks ∧ y = 0) := by rw [hn]; unfold useOk; simp
      by_cases d1 : x ∈ ks
      case neg =>
        have er : r = false := by rw [← hr, decide_eq_false (fun h => d1 (c4.1 h).1)]; rfl
        subst er
        simp [-D.isLit, iHoS, e0, e1, il, i3, i4, c1, c2, c3, hn, d1]
      by_cases d2 : y = 0
      case neg =>
        have er : r = false := by rw [← hr, decide_eq_false (fun h => d2 (c4.1 h).2)]; rfl
        subst er
        simp [-D.isLit, iHoS, e0, e1, il, i3, i4, c1, c2, c3, hn, d1, d2]
      have hr : (l.all (termB v.length) && histL v.length a (ks ++ [a]) q) = r := by rw [← hr, decide_eq_true (c4.2 ⟨d1, d2⟩)]; rfl
      simp [-D.isLit, iHoS, e0, e1, il, i3, i4, c1, c2, c3, hn, d1, d2]
      refine loop_go (fun n st => ∃ i, n = l.length - i ∧ i ≤ l.length ∧ (∀ t ∈ l.take i, termB v.length t = true) ∧ st = iHoT v f last ks p.length a k o x y l i) (s0 := iHoT v f last ks p.length a k o x y l 0) (n := l.length) (snd_obs (n := 141) [(1, 1, .box (.agg [.sl 2 (v.map EQ.e), .sl 6 (f.map EFeat.e)])), (6, 6, .box (.agg [.lit (.int .i64 a), .lit (.int .i64 k), .lit (.bool o), .lit (.int .i64 x), .lit (.int .i64 y), .sl 5 (l.map ETerm.e)])), (27, 27, .mp 81 (ks.map (Value.int .i64)))] rfl (by simp [d1, d2]) (by simp [iHoT])) ⟨0, rfl, Nat.zero_le _, by simp, rfl⟩ ?_
      rintro n st ⟨i, hni, hi, hall, rfl⟩ KN2 hN2
      by_cases h : i < l.length
      · obtain ⟨⟨g, ⟨b, c⟩, d, e⟩, hx, e2, hmem⟩ := at8 (E := ETerm.e) h
        obtain ⟨j1, ⟨j2, j3⟩, j4, j5⟩ := ht64 _ hmem
        have j1 : I64 g := j1
        have j2 : I64 b := j2
        have j3 : I64 c := j3
        have j4 : I64 d := j4
        have j5 : I64 e := j5
        obtain ⟨a1, a2⟩ := all8 (termB v.length) l i _ hx hall
        have w2 : IntKind.i64.wrap ((i : Int) + 1) = (i : Int) + 1 := i64_id _ (by omega) (by omega)
        have cq : allQC [.sl 2 [.agg [.lit (.int .i64 b), .lit (.int .i64 c)], eQ d e]] = (True, [.lit (.bool (decide (qOk b c) && decide (qOk d e)))]) := allQ2_8 b c d e ⟨j2, j3⟩ ⟨j4, j5⟩
        have e2 : ix (l.map ETerm.e) i = some (.agg [.lit (.int .i64 g), .agg [.lit (.int .i64 b), .lit (.int .i64 c)], eQ d e]) := e2
        have ep := eqPre_Q b c 0 1 ⟨j2, j3⟩ (by unfold I64; omega)
        by_cases hok : termOk v.length g b c d e
        · have a3 := a2 (decide_eq_true hok)
          obtain ⟨k1, k2, k3, k4, k5⟩ := hok
          have k1' : ¬ g < -1 := by omega
          have k2' : ¬ (v.length : Int) ≤ g := by omega
          by_cases k6 : g = -1
          · obtain ⟨k7, k8⟩ := k5 k6
            subst k6 k7 k8
            simp [-D.isLit, -z_all2, iHoT, h, e2, k1', k2', k3, k4, cq, ep, w2]
            exact hN2 _ (nx (m := l.length - (i + 1)) (s'' := iHoT v f last ks p.length a k o x y l (i + 1)) (snd_obs (n := 141) [(1, 1, .box (.agg [.sl 2 (v.map EQ.e), .sl 6 (f.map EFeat.e)])), (6, 6, .box (.agg [.lit (.int .i64 a), .lit (.int .i64 k), .lit (.bool o), .lit (.int .i64 x), .lit (.int .i64 y), .sl 5 (l.map ETerm.e)])), (27, 27, .mp 81 (ks.map (Value.int .i64)))] rfl (by simp) (by simp [iHoT])) ⟨i + 1, rfl, h, a3, rfl⟩ (by omega))
          · simp [-D.isLit, -z_all2, iHoT, h, e2, k1', k2', k3, k4, k6, cq, ep, w2]
            exact hN2 _ (nx (m := l.length - (i + 1)) (s'' := iHoT v f last ks p.length a k o x y l (i + 1)) (snd_obs (n := 141) [(1, 1, .box (.agg [.sl 2 (v.map EQ.e), .sl 6 (f.map EFeat.e)])), (6, 6, .box (.agg [.lit (.int .i64 a), .lit (.int .i64 k), .lit (.bool o), .lit (.int .i64 x), .lit (.int .i64 y), .sl 5 (l.map ETerm.e)])), (27, 27, .mp 81 (ks.map (Value.int .i64)))] rfl (by simp) (by simp [iHoT])) ⟨i + 1, rfl, h, a3, rfl⟩ (by omega))
        · have er : r = false := by rw [← hr, a1 (decide_eq_false hok)]; rfl
          subst er
          by_cases k1 : g < -1
          · simp [-D.isLit, -z_all2, iHoT, h, e2, k1]
          by_cases k2 : (v.length : Int) ≤ g
          · simp [-D.isLit, -z_all2, iHoT, h, e2, k1, k2]
          by_cases k3 : qOk b c ∧ qOk d e
          · have k6 : g = -1 := by
              apply Classical.byContradiction; intro hg
              exact hok ⟨by omega, by omega, k3.1, k3.2, fun h => absurd h hg⟩
            have k7 : ¬ (b = 0 ∧ c = 1) := fun h => hok ⟨by omega, by omega, k3.1, k3.2, fun _ => h⟩
            subst k6
            by_cases k8 : b = 0
            · have k9 : c ≠ 1 := fun h => k7 ⟨k8, h⟩
              simp [-D.isLit, -z_all2, iHoT, h, e2, k2, k3.1, k3.2, cq, ep, k9]
            · simp [-D.isLit, -z_all2, iHoT, h, e2, k2, k3.1, k3.2, cq, ep, k8]
          · have k3' : (decide (qOk b c) && decide (qOk d e)) = false := by rw [← Bool.decide_and]; exact decide_eq_false k3
            rw [k3'] at cq
            simp [-D.isLit, -z_all2, iHoT, h, e2, k1, k2, cq]
      · have hil : i = l.length := by omega
        subst hil
        rw [List.take_length] at hall
        have hr : histL v.length a (ks ++ [a]) q = r := by rw [← hr, List.all_eq_true.2 hall]; rfl
        have hks : ks.length < maxLen := by unfold maxLen; omega
        simp [-D.isLit, iHoT, w1, i1, hks]
        refine hN _ (nx (m := q.length) (s'' := iHoS v f a (ks ++ [a]) (p ++ [(a, k, o, x, y, l)]).length) (snd_obs (n := 141) [(1, 1, .box (.agg [.sl 2 (v.map EQ.e), .sl 6 (f.map EFeat.e)])), (27, 27, .mp 81 ((ks ++ [a]).map (Value.int .i64)))] rfl (by simp) (by simp [iHoS])) ⟨p ++ [(a, k, o, x, y, l)], q, a, ks ++ [a], by rw [hpq]; simp, rfl, by simp [hkl], i1, hr, rfl⟩ (by simp))
    · have c4 : useOk (ndK k) ks x y ↔ (x ∈ ks ∧ y ∈ ks) := by rw [hn]; unfold useOk; simp
      by_cases d1 : x ∈ ks
      case neg =>
        have er : r = false := by rw [← hr, decide_eq_false (fun h => d1 (c4.1 h).1)]; rfl
        subst er
        simp [-D.isLit, iHoS, e0, e1, il, i3, i4, c1, c2, c3, hn, d1]
      by_cases d2 : y ∈ ks
      case neg =>
        have er : r = false := by rw [← hr, decide_eq_false (fun h => d2 (c4.1 h).2)]; rfl
        subst er
        simp [-D.isLit, iHoS, e0, e1, il, i3, i4, c1, c2, c3, hn, d1, d2]
      have hr : (l.all (termB v.length) && histL v.length a (ks ++ [a]) q) = r := by rw [← hr, decide_eq_true (c4.2 ⟨d1, d2⟩)]; rfl
      simp [-D.isLit, iHoS, e0, e1, il, i3, i4, c1, c2, c3, hn, d1, d2]
      refine loop_go (fun n st => ∃ i, n = l.length - i ∧ i ≤ l.length ∧ (∀ t ∈ l.take i, termB v.length t = true) ∧ st = iHoT v f last ks p.length a k o x y l i) (s0 := iHoT v f last ks p.length a k o x y l 0) (n := l.length) (snd_obs (n := 141) [(1, 1, .box (.agg [.sl 2 (v.map EQ.e), .sl 6 (f.map EFeat.e)])), (6, 6, .box (.agg [.lit (.int .i64 a), .lit (.int .i64 k), .lit (.bool o), .lit (.int .i64 x), .lit (.int .i64 y), .sl 5 (l.map ETerm.e)])), (27, 27, .mp 81 (ks.map (Value.int .i64)))] rfl (by simp [d1, d2]) (by simp [iHoT])) ⟨0, rfl, Nat.zero_le _, by simp, rfl⟩ ?_
      rintro n st ⟨i, hni, hi, hall, rfl⟩ KN2 hN2
      by_cases h : i < l.length
      · obtain ⟨⟨g, ⟨b, c⟩, d, e⟩, hx, e2, hmem⟩ := at8 (E := ETerm.e) h
        obtain ⟨j1, ⟨j2, j3⟩, j4, j5⟩ := ht64 _ hmem
        have j1 : I64 g := j1
        have j2 : I64 b := j2
        have j3 : I64 c := j3
        have j4 : I64 d := j4
        have j5 : I64 e := j5
        obtain ⟨a1, a2⟩ := all8 (termB v.length) l i _ hx hall
        have w2 : IntKind.i64.wrap ((i : Int) + 1) = (i : Int) + 1 := i64_id _ (by omega) (by omega)
        have cq : allQC [.sl 2 [.agg [.lit (.int .i64 b), .lit (.int .i64 c)], eQ d e]] = (True, [.lit (.bool (decide (qOk b c) && decide (qOk d e)))]) := allQ2_8 b c d e ⟨j2, j3⟩ ⟨j4, j5⟩
        have e2 : ix (l.map ETerm.e) i = some (.agg [.lit (.int .i64 g), .agg [.lit (.int .i64 b), .lit (.int .i64 c)], eQ d e]) := e2
        have ep := eqPre_Q b c 0 1 ⟨j2, j3⟩ (by unfold I64; omega)
        by_cases hok : termOk v.length g b c d e
        · have a3 := a2 (decide_eq_true hok)
          obtain ⟨k1, k2, k3, k4, k5⟩ := hok
          have k1' : ¬ g < -1 := by omega
          have k2' : ¬ (v.length : Int) ≤ g := by omega
          by_cases k6 : g = -1
          · obtain ⟨k7, k8⟩ := k5 k6
            subst k6 k7 k8
            simp [-D.isLit, -z_all2, iHoT, h, e2, k1', k2', k3, k4, cq, ep, w2]
            exact hN2 _ (nx (m := l.length - (i + 1)) (s'' := iHoT v f last ks p.length a k o x y l (i + 1)) (snd_obs (n := 141) [(1, 1, .box (.agg [.sl 2 (v.map EQ.e), .sl 6 (f.map EFeat.e)])), (6, 6, .box (.agg [.lit (.int .i64 a), .lit (.int .i64 k), .lit (.bool o), .lit (.int .i64 x), .lit (.int .i64 y), .sl 5 (l.map ETerm.e)])), (27, 27, .mp 81 (ks.map (Value.int .i64)))] rfl (by simp) (by simp [iHoT])) ⟨i + 1, rfl, h, a3, rfl⟩ (by omega))
          · simp [-D.isLit, -z_all2, iHoT, h, e2, k1', k2', k3, k4, k6, cq, ep, w2]
            exact hN2 _ (nx (m := l.length - (i + 1)) (s'' := iHoT v f last ks p.length a k o x y l (i + 1)) (snd_obs (n := 141) [(1, 1, .box (.agg [.sl 2 (v.map EQ.e), .sl 6 (f.map EFeat.e)])), (6, 6, .box (.agg [.lit (.int .i64 a), .lit (.int .i64 k), .lit (.bool o), .lit (.int .i64 x), .lit (.int .i64 y), .sl 5 (l.map ETerm.e)])), (27, 27, .mp 81 (ks.map (Value.int .i64)))] rfl (by simp) (by simp [iHoT])) ⟨i + 1, rfl, h, a3, rfl⟩ (by omega))
        · have er : r = false := by rw [← hr, a1 (decide_eq_false hok)]; rfl
          subst er
          by_cases k1 : g < -1
          · simp [-D.isLit, -z_all2, iHoT, h, e2, k1]
          by_cases k2 : (v.length : Int) ≤ g
          · simp [-D.isLit, -z_all2, iHoT, h, e2, k1, k2]
          by_cases k3 : qOk b c ∧ qOk d e
          · have k6 : g = -1 := by
              apply Classical.byContradiction; intro hg
              exact hok ⟨by omega, by omega, k3.1, k3.2, fun h => absurd h hg⟩
            have k7 : ¬ (b = 0 ∧ c = 1) := fun h => hok ⟨by omega, by omega, k3.1, k3.2, fun _ => h⟩
            subst k6
            by_cases k8 : b = 0
            · have k9 : c ≠ 1 := fun h => k7 ⟨k8, h⟩
              simp [-D.isLit, -z_all2, iHoT, h, e2, k2, k3.1, k3.2, cq, ep, k9]
            · simp [-D.isLit, -z_all2, iHoT, h, e2, k2, k3.1, k3.2, cq, ep, k8]
          · have k3' : (decide (qOk b c) && decide (qOk d e)) = false := by rw [← Bool.decide_and]; exact decide_eq_false k3
            rw [k3'] at cq
            simp [-D.isLit, -z_all2, iHoT, h, e2, k1, k2, cq]
      · have hil : i = l.length := by omega
        subst hil
        rw [List.take_length] at hall
        have hr : histL v.length a (ks ++ [a]) q = r := by rw [← hr, List.all_eq_true.2 hall]; rfl
        have hks : ks.length < maxLen := by unfold maxLen; omega
        simp [-D.isLit, iHoT, w1, i1, hks]
        refine hN _ (nx (m := q.length) (s'' := iHoS v f a (ks ++ [a]) (p ++ [(a, k, o, x, y, l)]).length) (snd_obs (n := 141) [(1, 1, .box (.agg [.sl 2 (v.map EQ.e), .sl 6 (f.map EFeat.e)])), (27, 27, .mp 81 ((ks ++ [a]).map (Value.int .i64)))] rfl (by simp) (by simp [iHoS])) ⟨p ++ [(a, k, o, x, y, l)], q, a, ks ++ [a], by rw [hpq]; simp, rfl, by simp [hkl], i1, hr, rfl⟩ (by simp))
theorem iHo_ok : callable Try.prog 13 = true := by kernel_rfl
end Go.Proofs.Ytojbfdkpelldoaa.Ae

namespace Go.Proofs.Ytojbfdkpelldoaa.Ae
open Go Go.RowKit Go.Proofs.Ytojbfdkpelldoaa.Dig
noncomputable def sHoTb : List (FuncId × Ct) := [(18, .data qokC), (27, .data l19CC), (28, .data l19UC), (29, .data l19FC)]
theorem sHoTb_ok : TbOK NF Try.prog (tbl sHoTb) := tbl_cons (c := .data qokC) sQOk_spec sQOk_ok (tbl_cons (c := .data l19CC) l19C_spec l19C_ok (tbl_cons (c := .data l19UC) l19U_spec l19U_ok (tbl_cons (c := .data l19FC) l19F_spec l19F_ok tbl_nil)))
@[simp] theorem sHoTb1 : tbl sHoTb 18 = some (.data qokC) := rfl
@[simp] theorem sHoTb2 : tbl sHoTb 27 = some (.data l19CC) := rfl
@[simp] theorem sHoTb3 : tbl sHoTb 28 = some (.data l19UC) := rfl
@[simp] theorem sHoTb4 : tbl sHoTb 29 = some (.data l19FC) := rfl
@[simp] theorem lit_lit9 (v : Value) : (D.lit v).isLit = true := rfl
def sHoS1 (v : List (Int × Int)) (f : List FeatT) (j : Nat) : St := ⟨[.any, .obj 1 [] 0, .any, .dat (.lit (.int .i64 j)), .any, .any, .any, .any, .any, .any, .any, .any, .any, .any, .any, .any, .any, .any, .any, .any, .any, .any, .any, .any, .any, .any, .any, .any, .any, .any, .any, .any, .any, .any, .any, .any, .any, .any, .any, .any, .any, .any, .any, .any, .any, .any, .any, .any, .any, .any, .any, .any, .any, .any, .any, .any, .any, .any, .any, .any, .any, .any, .any, .any, .any, .any, .any, .any, .any, .any, .any, .any, .any, .any, .any, .any, .any, .any, .any, .any, .any, .any, .any, .any, .any, .any, .any, .any, .any, .any, .any, .any, .any, .any, .any, .any, .any, .any, .any, .any, .any, .any, .any, .any, .any, .any, .any, .any, .any, .any, .any, .any, .any, .any, .any, .any, .any, .any, .any, .any, .any, .any, .any, .any, .any, .any, .any, .any, .any, .any, .any, .any, .any, .any, .any, .any, .any, .any, .any, .any, .any, .any, .any, .any, .any, .any, .any, .any, .any, .any, .any, .any, .any, .any, .any, .any, .any, .any, .any, .any, .any, .any, .any, .any, .any, .any, .any, .any, .any], [none, some (.box (.agg [.sl 2 (v.map EQ.e), .sl 6 (f.map EFeat.e)])), none, none, none, none, none, none, none, none, none, none, none, none, none, none, none, none, none, none, none, none, none, none, none, none, none, none, none, none, none, none, none, none, none, none, none, none, none, none, none, none, none, none, none, none, none, none, none, none, none, none, none, none, none, none, none, none, none, none, none, none, none, none, none, none, none, none, none, none, none, none, none, none, none, none, none, none, none, none, none, none, none, none, none, none, none, none, none, none, none, none, none, none, none, none, none, none, none, none, none, none, none, none, none, none, none, none, none, none, none, none, none, none, none, none, none, none, none, none, none, none, none, none, none, none, none, none, none, none, none, none, none, none, none, none, none, none, none, none, none, none, none, none, none, none, none, none, none, none, none, none, none, none, none, none, none, none, none, none, none, none, none, none, none, none, none, none, none]⟩
def sHoS (v : List (Int × Int)) (f : List FeatT) (j : Nat) : St := ⟨[.any, .obj 1 [] 0, .any, .any, .dat (.lit (.int .i64 j)), .any, .any, .any, .any, .any, .any, .any, .any, .any, .any, .any, .any, .any, .any, .any, .any, .any, .any, .any, .any, .any, .any, .any, .any, .any, .any, .any, .any, .any, .any, .any, .any, .any, .any, .any, .any, .any, .any, .any, .any, .any, .any, .any, .any, .any, .any, .any, .any, .any, .any, .any, .any, .any, .any, .any, .any, .any, .any, .any, .any, .any, .any, .any, .any, .any, .any, .any, .any, .any, .any, .any, .any, .any, .any, .any, .any, .any, .any, .any, .any, .any, .any, .any, .any, .any, .any, .any, .any, .any, .any, .any, .any, .any, .any, .any, .any, .any, .any, .any, .any, .any, .any, .any, .any, .any, .any, .any, .any, .any, .any, .any, .any, .any, .any, .any, .any, .any, .any, .any, .any, .any, .any, .any, .any, .any, .any, .any, .any, .any, .any, .any, .any, .any, .any, .any, .any, .any, .any, .any, .any, .any, .any, .any, .any, .any, .any, .any, .any, .any, .any, .any, .any, .any, .any, .any, .any, .any, .any, .any, .any, .any, .any, .any, .any], [none, some (.box (.agg [.sl 2 (v.map EQ.e), .sl 6 (f.map EFeat.e)])), none, none, none, none, none, none, none, none, none, none, none, none, none, none, none, none, none, none, none, none, none, none, none, none, none, none, none, none, none, none, none, none, none, none, none, none, none, none, none, none, none, none, none, none, none, none, none, none, none, none, none, none, none, none, none, none, none, none, none, none, none, none, none, none, none, none, none, none, none, none, none, none, none, none, none, none, none, none, none, none, none, none, none, none, none, none, none, none, none, none, none, none, none, none, none, none, none, none, none, none, none, none, none, none, none, none, none, none, none, none, none, none, none, none, none, none, none, none, none, none, none, none, none, none, none, none, none, none, none, none, none, none, none, none, none, none, none, none, none, none, none, none, none, none, none, none, none, none, none, none, none, none, none, none, none, none, none, none, none, none, none, none, none, none, none, none, none]⟩
def sHoT (v : List (Int × Int)) (f : List FeatT) (j : Nat) (a k : Int) (o : Bool) (x y : Int) (l : List TermT) (i : Nat) : St := ⟨[.any, .obj 1 [] 0, .any, .any, .dat (.lit (.int .i64 j)), .obj 5 [] 0, .any, .any, .dat (.lit (.int .i64 i)), .any, .any, .any, .any, .any, .any, .any, .any, .any, .any, .any, .any, .any, .any, .any, .any, .any, .any, .any, .any, .any, .any, .any, .any, .any, .any, .any, .any, .any, .any, .any, .any, .any, .any, .any, .any, .any, .any, .any, .any, .any, .any, .any, .any, .any, .any, .any, .any, .any, .any, .any, .any, .any, .any, .any, .any, .any, .any, .any, .any, .any, .any, .any, .any, .any, .any, .any, .any, .any, .any, .any, .any, .any, .any, .any, .any, .any, .any, .any, .any, .any, .any, .any, .any, .any, .any, .any, .any, .any, .any, .any, .any, .any, .any, .any, .any, .any, .any, .any, .any, .any, .any, .any, .any, .any, .any, .any, .any, .any, .any, .any, .any, .any, .any, .any, .any, .any, .any, .any, .any, .any, .any, .any, .any, .any, .any, .any, .any, .any, .any, .any, .any, .any, .any, .any, .any, .any, .any, .any, .any, .any, .any, .any, .any, .any, .any, .any, .any, .any, .any, .any, .any, .any, .any, .any, .any, .any, .any, .any, .any], [none, some (.box (.agg [.sl 2 (v.map EQ.e), .sl 6 (f.map EFeat.e)])), none, none, none, some (.box (.agg [.lit (.int .i64 a), .lit (.int .i64 k), .lit (.bool o), .lit (.int .i64 x), .lit (.int .i64 y), .sl 5 (l.map ETerm.e)])), none, none, none, none, none, none, none, none, none, none, none, none, none, none, none, none, none, none, none, none, none, none, none, none, none, none, none, none, none, none, none, none, none, none, none, none, none, none, none, none, none, none, none, none, none, none, none, none, none, none, none, none, none, none, none, none, none, none, none, none, none, none, none, none, none, none, none, none, none, none, none, none, none, none, none, none, none, none, none, none, none, none, none, none, none, none, none, none, none, none, none, none, none, none, none, none, none, none, none, none, none, none, none, none, none, none, none, none, none, none, none, none, none, none, none, none, none, none, none, none, none, none, none, none, none, none, none, none, none, none, none, none, none, none, none, none, none, none, none, none, none, none, none, none, none, none, none, none, none, none, none, none, none, none, none, none, none, none, none, none, none, none, none]⟩
theorem take_ids (f : List FeatT) (j : Nat) (z : FeatT) (h : f[j]? = some z) : (f.map (·.1)).take (j + 1) = (f.map (·.1)).take j ++ [z.1] := take_succ _ j z.1 (by rw [List.getElem?_map, h]; rfl)
noncomputable def sHoL : Code := inL (inB (sq2 (sq2 (sq2 (sq2 (sq2 (inB (sq1 (sq2 (inL (inB (sq2 (sq1 (sq2 (sq2 (sq2 (Try.f11.body.getD .skip)))))))))))))))))
def sHoX (v : List (Int × Int)) (f : List FeatT) (j : Nat) (a k : Int) (o : Bool) (x y : Int) (l : List TermT) : St := ⟨[.any, .obj 1 [] 0, .any, .any, .dat (.lit (.int .i64 j)), .obj 5 [] 0, .any, .any, .dat (.lit (.int .i64 l.length)), .any, .any, .any, .any, .any, .any, .any, .any, .any, .any, .any, .any, .any, .any, .any, .any, .any, .any, .any, .any, .any, .any, .any, .any, .any, .any, .any, .any, .any, .any, .any, .any, .any, .any, .any, .any, .any, .any, .any, .any, .any, .any, .any, .any, .any, .any, .any, .any, .any, .any, .any, .any, .any, .any, .any, .any, .any, .any, .any, .any, .any, .any, .any, .any, .any, .any, .any, .any, .any, .any, .any, .any, .any, .any, .any, .any, .any, .any, .any, .any, .any, .any, .any, .any, .any, .any, .any, .any, .any, .any, .any, .any, .any, .any, .any, .any, .any, .any, .any, .any, .any, .any, .any, .any, .any, .any, .any, .any, .any, .any, .any, .any, .any, .any, .dat (.lit (.int .i64 l.length)), .obj 5 [5] 5, .dat (.sl 5 (l.map ETerm.e)), .dat (.lit (.int .i64 l.length)), .dat (.lit (.bool false)), .any, .any, .any, .any, .any, .any, .any, .any, .any, .any, .any, .any, .any, .any, .any, .any, .any, .any, .any, .any, .any, .any, .any, .any, .any, .any, .any, .any, .any, .any, .any, .any, .any, .any, .any, .any, .any, .any, .any, .any, .any], [none, some (.box (.agg [.sl 2 (v.map EQ.e), .sl 6 (f.map EFeat.e)])), none, none, none, some (.box (.agg [.lit (.int .i64 a), .lit (.int .i64 k), .lit (.bool o), .lit (.int .i64 x), .lit (.int .i64 y), .sl 5 (l.map ETerm.e)])), none, none, none, none, none, none, none, none, none, none, none, none, none, none, none, none, none, none, none, none, none, none, none, none, none, none, none, none, none, none, none, none, none, none, none, none, none, none, none, none, none, none, none, none, none, none, none, none, none, none, none, none, none, none, none, none, none, none, none, none, none, none, none, none, none, none, none, none, none, none, none, none, none, none, none, none, none, none, none, none, none, none, none, none, none, none, none, none, none, none, none, none, none, none, none, none, none, none, none, none, none, none, none, none, none, none, none, none, none, none, none, none, none, none, none, none, none, none, none, none, none, none, none, none, none, none, none, none, none, none, none, none, none, none, none, none, none, none, none, none, none, none, none, none, none, none, none, none, none, none, none, none, none, none, none, none, none, none, none, none, none, none, none]⟩
set_option maxRecDepth 100000 in
set_option maxHeartbeats 4000000 in
theorem sHo_in {K : Exit → St → Prop} (v : List (Int × Int)) (f : List FeatT) (j : Nat) (a k : Int) (o : Bool) (x y : Int) (l : List TermT) (hl : l.length < 1048577) (ht64 : ∀ t ∈ l, Term64 t) {st : St} (h0 : Snd st (sHoT v f j a k o x y l 0))
    (hT : l.all (termB v.length) = true → K .normal (sHoX v f j a k o x y l)) (hF : l.all (termB v.length) = false → ∀ s : St, s.get 2 = .dat (.lit (.bool false)) → K .ret s) :
    awp Try.prog (fun g => false) (tbl sHoTb) (.loop sHoL) st (Kblk 4 K) := by
  simp only [sHoL, Try.f11, Option.getD, sq1, sq2, inB, inL]
  refine loop_go (fun n st => ∃ i, n = l.length - i ∧ i ≤ l.length ∧ (∀ t ∈ l.take i, termB v.length t = true) ∧ st = sHoT v f j a k o x y l i) (s0 := sHoT v f j a k o x y l 0) (n := l.length) h0 ⟨0, rfl, Nat.zero_le _, by simp, rfl⟩ ?_
  rintro n st ⟨i, hni, hi, hall, rfl⟩ KN2 hN2
  by_cases h3 : i < l.length
  · obtain ⟨⟨g, ⟨b, c⟩, d, e⟩, hx2, e2, hmem2⟩ := at8 (E := ETerm.e) h3
    obtain ⟨j1, ⟨j2, j3⟩, j4, j5⟩ := ht64 _ hmem2
    have j1 : I64 g := j1
    have j2 : I64 b := j2
    have j3 : I64 c := j3
    have j4 : I64 d := j4
    have j5 : I64 e := j5
    obtain ⟨a1, a2⟩ := all_drop (termB v.length) l i _ hx2 hall
    have w2 : IntKind.i64.wrap ((i : Int) + 1) = (i : Int) + 1 := i64_id _ (by omega) (by omega)
    by_cases hok : termOk v.length g b c d e
    · have a3 := a2 (decide_eq_true hok)
      obtain ⟨k1, k2, k3, k4, k5⟩ := hok
      have k1' : ¬ g < -1 := by omega
      have k2' : ¬ (v.length : Int) ≤ g := by omega
      by_cases k6 : g = -1
      · obtain ⟨k7, k8⟩ := k5 k6
        subst k6 k7 k8
        simp [-D.isLit, sHoT, h3, e2, k1', k2', k3, k4, j2, j3, j4, j5, w2]
        exact hN2 _ (nx (m := l.length - (i + 1)) (s'' := sHoT v f j a k o x y l (i + 1)) (snd_obs (n := 169) [(1, 1, .box (.agg [.sl 2 (v.map EQ.e), .sl 6 (f.map EFeat.e)])), (5, 5, .box (.agg [.lit (.int .i64 a), .lit (.int .i64 k), .lit (.bool o), .lit (.int .i64 x), .lit (.int .i64 y), .sl 5 (l.map ETerm.e)]))] rfl (by simp) (by simp [sHoT])) ⟨i + 1, rfl, h3, a3, rfl⟩ (by omega))
      · simp [-D.isLit, sHoT, h3, e2, k1', k2', k3, k4, k6, j2, j3, j4, j5, w2]
        exact hN2 _ (nx (m := l.length - (i + 1)) (s'' := sHoT v f j a k o x y l (i + 1)) (snd_obs (n := 169) [(1, 1, .box (.agg [.sl 2 (v.map EQ.e), .sl 6 (f.map EFeat.e)])), (5, 5, .box (.agg [.lit (.int .i64 a), .lit (.int .i64 k), .lit (.bool o), .lit (.int .i64 x), .lit (.int .i64 y), .sl 5 (l.map ETerm.e)]))] rfl (by simp) (by simp [sHoT])) ⟨i + 1, rfl, h3, a3, rfl⟩ (by omega))
    · have hF := hF (a1 (decide_eq_false hok))
      by_cases k1 : g < -1
      · simp [-D.isLit, sHoT, h3, e2, k1]
        exact hF _ rfl
      by_cases k2 : (v.length : Int) ≤ g
      · simp [-D.isLit, sHoT, h3, e2, k1, k2]
        exact hF _ rfl
      by_cases k3 : qOk b c
      case neg =>
        simp [-D.isLit, sHoT, h3, e2, k1, k2, k3, j2, j3]
        exact hF _ rfl
      by_cases k4 : qOk d e
      case neg =>
        simp [-D.isLit, sHoT, h3, e2, k1, k2, k3, k4, j2, j3, j4, j5]
        exact hF _ rfl
      have k6 : g = -1 := by
        apply Classical.byContradiction; intro hg
        exact hok ⟨by omega, by omega, k3, k4, fun h => absurd h hg⟩
      have k8 : b ≠ 0 := fun h => hok ⟨by omega, by omega, k3, k4, fun _ => ⟨h, by subst h; exact q0_den k3⟩⟩
      subst k6
      simp [-D.isLit, sHoT, h3, e2, k2, k3, k4, j2, j3, j4, j5, k8]
      exact hF _ rfl
  · have hil : i = l.length := by omega
    subst hil
    rw [List.take_length] at hall
    have hT := hT (List.all_eq_true.2 hall)
    simp [-D.isLit, sHoT]
    exact hT
set_option maxRecDepth 100000 in
set_option maxHeartbeats 8000000 in
theorem sHo_spec : SpecD NF Try.prog 11 hOkC := by
  refine rd1 (mf := fun g => false) sHoTb_ok (fn := Try.f11) (by kernel_rfl) rfl (by kernel_rfl) (by kernel_rfl) ?_
  rintro ⟨v, f⟩ ⟨⟨hs1, hs2, hs3⟩, ⟨_, hv64⟩, _, hf64⟩
  have hS : histS (v, f) := ⟨hs1, hs2, hs3⟩
  have hs1 : v.length < 1048577 := hs1
  have hs2 : f.length < 1048577 := hs2
  have hv64 : ∀ q ∈ v, I64p q := hv64
  have hf64 : ∀ p ∈ f, Feat64 p := hf64
  have hs3 : ∀ p ∈ f, featS p := hs3
  generalize hr : histB (v, f) = r
  show awp _ _ _ _ (start _ ([.agg [.sl 2 (v.map EQ.e), .sl 6 (f.map EFeat.e)]].map .dat) []) (endK _ _ _ ([D.lit (.bool r)].map .dat) [])
  simp only [Try.f11]
  by_cases h1 : 6 < v.length
  · have er : r = false := by rw [← hr]; unfold histB; rw [decide_eq_false (show ¬ v.length ≤ 6 by omega)]; rfl
    subst er
    have h1' : (6 : Int) < v.length := by omega
    simp [-D.isLit, h1, h1']
  have h1' : ¬ (6 : Int) < v.length := by omega
  have h1'' : (v.length : Int) ≤ 6 := by omega
  by_cases h2 : 8 < f.length
  · have er : r = false := by rw [← hr]; unfold histB; rw [decide_eq_false (show ¬ f.length ≤ 8 by omega)]; simp
    subst er
    have h2' : (8 : Int) < f.length := by omega
    simp [-D.isLit, h1, h1', h1'', h2, h2']
  have h2' : ¬ (8 : Int) < f.length := by omega
  have h2'' : (f.length : Int) ≤ 8 := by omega
  have hr : (v.all qB8 && histL v.length 0 [] f) = r := by rw [← hr]; unfold histB; rw [decide_eq_true (show f.length ≤ 8 by omega), decide_eq_true (show v.length ≤ 6 by omega), Bool.true_and, Bool.true_and]
  simp [-D.isLit, h1, h1', h1'', h2, h2', h2'']
  refine loop_go (fun n st => ∃ j, n = v.length - j ∧ j ≤ v.length ∧ (∀ y ∈ v.take j, qB8 y = true) ∧ st = sHoS1 v f j) (s0 := sHoS1 v f 0) (n := v.length) (snd_obs (n := 169) [(1, 1, .box (.agg [.sl 2 (v.map EQ.e), .sl 6 (f.map EFeat.e)]))] rfl (by simp) (by simp [sHoS1])) ⟨0, rfl, Nat.zero_le _, by simp, rfl⟩ ?_
  rintro n st ⟨j, hn, hj, hall, rfl⟩ KN hN
  by_cases h : j < v.length
  · obtain ⟨⟨a, b⟩, hx, e1, hmem⟩ := at8 (E := EQ.e) h
    obtain ⟨i1, i2⟩ := hv64 _ hmem
    have i1 : I64 a := i1
    have i2 : I64 b := i2
    obtain ⟨a1, a2⟩ := all_drop qB8 v j _ hx hall
    have w1 : IntKind.i64.wrap ((j : Int) + 1) = (j : Int) + 1 := i64_id _ (by omega) (by omega)
    by_cases hok : qOk a b
    · have a2 := a2 (decide_eq_true hok)
      simp [-D.isLit, sHoS1, h, e1, i1, i2, hok, w1]
      exact hN _ (nx (m := v.length - (j + 1)) (s'' := sHoS1 v f (j + 1)) (snd_obs (n := 169) [(1, 1, .box (.agg [.sl 2 (v.map EQ.e), .sl 6 (f.map EFeat.e)]))] rfl (by simp) (by simp [sHoS1])) ⟨j + 1, rfl, h, a2, rfl⟩ (by omega))
    · have er : r = false := by rw [← hr, a1 (decide_eq_false hok)]; rfl
      subst er
      simp [-D.isLit, sHoS1, h, e1, i1, i2, hok]
  have hjl : j = v.length := by omega
  subst hjl
  rw [List.take_length] at hall
  rw [List.all_eq_true.2 hall, Bool.true_and] at hr
  simp [-D.isLit, sHoS1]
  clear hall hN hn hj
  refine loop_go (fun n st => ∃ j last, n = f.length - j ∧ j ≤ f.length ∧ 0 ≤ last ∧ (j = 0 → last = 0) ∧ (∀ m, j = m + 1 → ∃ z, f[m]? = some z ∧ z.1 = last) ∧ histL v.length last ((f.map (·.1)).take j) (f.drop j) = r ∧ st = sHoS v f j) (s0 := sHoS v f 0) (n := f.length) (snd_obs (n := 169) [(1, 1, .box (.agg [.sl 2 (v.map EQ.e), .sl 6 (f.map EFeat.e)]))] rfl (by simp) (by simp [sHoS])) ⟨0, 0, rfl, Nat.zero_le _, by omega, fun _ => rfl, fun m h => by omega, hr, rfl⟩ ?_
  rintro n st ⟨j, last, hn, hj, hl0, hz0, hlast, hr, rfl⟩ KN hN
  by_cases h : j < f.length
  case neg =>
    have hjl : j = f.length := by omega
    subst hjl
    rw [List.drop_length] at hr
    have er : r = true := hr.symm
    subst er
    simp [-D.isLit, sHoS]
  obtain ⟨⟨a, k, o, x, y, l⟩, hx, e1, hmem⟩ := at8 (E := EFeat.e) h
  have hzs := hs3 _ hmem
  obtain ⟨⟨i1, i2, i3, i4⟩, hl64, ht64⟩ := hf64 _ hmem
  have i1 : I64 a := i1
  have hl : l.length < 1048577 := hzs
  have ht64 : ∀ t ∈ l, Term64 t := ht64
  have hdr : f.drop j = (a, k, o, x, y, l) :: f.drop (j + 1) := by
    have e := List.getElem?_eq_getElem h
    rw [hx] at e
    injection e with e
    rw [e]
    exact List.drop_eq_getElem_cons h
  have htk := take_ids f j _ hx
  rw [hdr] at hr
  have hr : ((decide (ndOk k l.length) && (decide (last < a ∧ a ≤ 1000) && (decide (useOk (ndK k) ((f.map (·.1)).take j) x y) && l.all (termB v.length)))) && histL v.length a ((f.map (·.1)).take j ++ [a]) (f.drop (j + 1))) = r := hr
  rw [← htk] at hr
  have cfx := l19FC_at v f x j
  have cfy := l19FC_at v f y j
  rw [eq_true (⟨hS, by omega, by omega⟩ : histS (v, f) ∧ (0 : Int) ≤ j ∧ (j : Int) ≤ f.length), Int.toNat_natCast] at cfx cfy
  generalize hks : (f.map (·.1)).take j = ks at *
  have w1 : IntKind.i64.wrap ((j : Int) + 1) = (j : Int) + 1 := i64_id _ (by omega) (by omega)
  by_cases c1 : a < 1
  · have er : r = false := by rw [← hr, decide_eq_false (show ¬ (last < a ∧ a ≤ 1000) by omega)]; simp
    subst er
    simp [-D.isLit, sHoS, h, e1, c1]
  by_cases c2 : 1000 < a
  · have er : r = false := by rw [← hr, decide_eq_false (show ¬ (last < a ∧ a ≤ 1000) by omega)]; simp
    subst er
    simp [-D.isLit, sHoS, h, e1, c1, c2]
  by_cases hj0 : j = 0
  · have hjp : ¬ 0 < j := by omega
    have hlt : last < a := by have := hz0 hj0; omega
    by_cases c4 : ndOk k l.length
    case neg =>
      have er : r = false := by rw [← hr, decide_eq_false c4]; rfl
      subst er
      simp [-D.isLit, sHoS, h, e1, c1, c2, hjp, c4]
    have hr : ((decide (useOk (ndK k) ks x y) && l.all (termB v.length)) && histL v.length a (List.take (j + 1) (List.map (fun x => x.1) f)) (f.drop (j + 1))) = r := by
      rw [← hr, decide_eq_true c4, decide_eq_true (show last < a ∧ a ≤ 1000 by omega)]; rfl
    have hn : ndK k = 0 ∨ ndK k = 1 ∨ ndK k = 2 := by unfold ndK; split <;> (try split) <;> simp
    rcases hn with hn | hn | hn
    · have c5 : useOk (ndK k) ks x y ↔ (x = 0 ∧ y = 0) := by rw [hn]; unfold useOk; simp
      by_cases d1 : x = 0
      case neg =>
        have er : r = false := by rw [← hr, decide_eq_false (fun h => d1 (c5.1 h).1)]; rfl
        subst er
        simp [-D.isLit, -l19FC_at, sHoS, h, e1, c1, c2, hjp, c4, hn, cfx, cfy, d1]
      by_cases d2 : y = 0
      case neg =>
        have er : r = false := by rw [← hr, decide_eq_false (fun h => d2 (c5.1 h).2)]; rfl
        subst er
        simp [-D.isLit, -l19FC_at, sHoS, h, e1, c1, c2, hjp, c4, hn, cfx, cfy, d1, d2]
      have hr : (l.all (termB v.length) && histL v.length a (List.take (j + 1) (List.map (fun x => x.1) f)) (f.drop (j + 1))) = r := by rw [← hr, decide_eq_true (c5.2 ⟨d1, d2⟩)]; rfl
      simp [-D.isLit, -l19FC_at, sHoS, h, e1, c1, c2, hjp, c4, hn, cfx, cfy, d1, d2]
      refine sHo_in v f j a k o x y l hl ht64 (snd_obs (n := 169) [(1, 1, .box (.agg [.sl 2 (v.map EQ.e), .sl 6 (f.map EFeat.e)])), (5, 5, .box (.agg [.lit (.int .i64 a), .lit (.int .i64 k), .lit (.bool o), .lit (.int .i64 x), .lit (.int .i64 y), .sl 5 (l.map ETerm.e)]))] rfl (by simp [d1, d2]) (by simp [sHoT])) (fun hall => ?_) (fun hall s hs => ?_)
      · have hr : histL v.length a (List.take (j + 1) (List.map (fun x => x.1) f)) (f.drop (j + 1)) = r := by rw [← hr, hall]; rfl
        simp [-D.isLit, sHoX, w1]
        refine hN _ (nx (m := f.length - (j + 1)) (s'' := sHoS v f (j + 1)) (snd_obs (n := 169) [(1, 1, .box (.agg [.sl 2 (v.map EQ.e), .sl 6 (f.map EFeat.e)]))] rfl (by simp) (by simp [sHoS])) ⟨j + 1, a, rfl, h, by omega, fun h => by omega, fun m hm => by
          obtain rfl : m = j := by omega
          exact ⟨_, hx, rfl⟩, hr, rfl⟩ (by omega))
      · have er : r = false := by rw [← hr, hall]; rfl
        subst er
        simp [-D.isLit, hs]
    · have c5 : useOk (ndK k) ks x y ↔ (x ∈ ks ∧ y = 0) := by rw [hn]; unfold useOk; simp
      by_cases d1 : x ∈ ks
      case neg =>
        have er : r = false := by rw [← hr, decide_eq_false (fun h => d1 (c5.1 h).1)]; rfl
        subst er
        have gx : fnd ks x < 0 := (fnd_neg ks x).2 d1
        simp [-D.isLit, -l19FC_at, sHoS, h, e1, c1, c2, hjp, c4, hn, cfx, cfy, gx]
      have gx : ¬ fnd ks x < 0 := fun hf => (fnd_neg ks x).1 hf d1
      by_cases d2 : y = 0
      case neg =>
        have er : r = false := by rw [← hr, decide_eq_false (fun h => d2 (c5.1 h).2)]; rfl
        subst er
        simp [-D.isLit, -l19FC_at, sHoS, h, e1, c1, c2, hjp, c4, hn, cfx, cfy, gx, d2]
      have hr : (l.all (termB v.length) && histL v.length a (List.take (j + 1) (List.map (fun x => x.1) f)) (f.drop (j + 1))) = r := by rw [← hr, decide_eq_true (c5.2 ⟨d1, d2⟩)]; rfl
      simp [-D.isLit, -l19FC_at, sHoS, h, e1, c1, c2, hjp, c4, hn, cfx, cfy, gx, d2]
      refine sHo_in v f j a k o x y l hl ht64 (snd_obs (n := 169) [(1, 1, .box (.agg [.sl 2 (v.map EQ.e), .sl 6 (f.map EFeat.e)])), (5, 5, .box (.agg [.lit (.int .i64 a), .lit (.int .i64 k), .lit (.bool o), .lit (.int .i64 x), .lit (.int .i64 y), .sl 5 (l.map ETerm.e)]))] rfl (by simp [d1, d2]) (by simp [sHoT])) (fun hall => ?_) (fun hall s hs => ?_)
      · have hr : histL v.length a (List.take (j + 1) (List.map (fun x => x.1) f)) (f.drop (j + 1)) = r := by rw [← hr, hall]; rfl
        simp [-D.isLit, sHoX, w1]
        refine hN _ (nx (m := f.length - (j + 1)) (s'' := sHoS v f (j + 1)) (snd_obs (n := 169) [(1, 1, .box (.agg [.sl 2 (v.map EQ.e), .sl 6 (f.map EFeat.e)]))] rfl (by simp) (by simp [sHoS])) ⟨j + 1, a, rfl, h, by omega, fun h => by omega, fun m hm => by
          obtain rfl : m = j := by omega
          exact ⟨_, hx, rfl⟩, hr, rfl⟩ (by omega))
      · have er : r = false := by rw [← hr, hall]; rfl
        subst er
        simp [-D.isLit, hs]
    · have c5 : useOk (ndK k) ks x y ↔ (x ∈ ks ∧ y ∈ ks) := by rw [hn]; unfold useOk; simp
      by_cases d1 : x ∈ ks
      case neg =>
        have er : r = false := by rw [← hr, decide_eq_false (fun h => d1 (c5.1 h).1)]; rfl
        subst er
        have gx : fnd ks x < 0 := (fnd_neg ks x).2 d1
        simp [-D.isLit, -l19FC_at, sHoS, h, e1, c1, c2, hjp, c4, hn, cfx, cfy, gx]
      have gx : ¬ fnd ks x < 0 := fun hf => (fnd_neg ks x).1 hf d1
      by_cases d2 : y ∈ ks
      case neg =>
        have er : r = false := by rw [← hr, decide_eq_false (fun h => d2 (c5.1 h).2)]; rfl
        subst er
        have gy : fnd ks y < 0 := (fnd_neg ks y).2 d2
        simp [-D.isLit, -l19FC_at, sHoS, h, e1, c1, c2, hjp, c4, hn, cfx, cfy, gx, gy]
      have gy : ¬ fnd ks y < 0 := fun hf => (fnd_neg ks y).1 hf d2
      have hr : (l.all (termB v.length) && histL v.length a (List.take (j + 1) (List.map (fun x => x.1) f)) (f.drop (j + 1))) = r := by rw [← hr, decide_eq_true (c5.2 ⟨d1, d2⟩)]; rfl
      simp [-D.isLit, -l19FC_at, sHoS, h, e1, c1, c2, hjp, c4, hn, cfx, cfy, gx, gy]
      refine sHo_in v f j a k o x y l hl ht64 (snd_obs (n := 169) [(1, 1, .box (.agg [.sl 2 (v.map EQ.e), .sl 6 (f.map EFeat.e)])), (5, 5, .box (.agg [.lit (.int .i64 a), .lit (.int .i64 k), .lit (.bool o), .lit (.int .i64 x), .lit (.int .i64 y), .sl 5 (l.map ETerm.e)]))] rfl (by simp [d1, d2]) (by simp [sHoT])) (fun hall => ?_) (fun hall s hs => ?_)
      · have hr : histL v.length a (List.take (j + 1) (List.map (fun x => x.1) f)) (f.drop (j + 1)) = r := by rw [← hr, hall]; rfl
        simp [-D.isLit, sHoX, w1]
        refine hN _ (nx (m := f.length - (j + 1)) (s'' := sHoS v f (j + 1)) (snd_obs (n := 169) [(1, 1, .box (.agg [.sl 2 (v.map EQ.e), .sl 6 (f.map EFeat.e)]))] rfl (by simp) (by simp [sHoS])) ⟨j + 1, a, rfl, h, by omega, fun h => by omega, fun m hm => by
          obtain rfl : m = j := by omega
          exact ⟨_, hx, rfl⟩, hr, rfl⟩ (by omega))
      · have er : r = false := by rw [← hr, hall]; rfl
        subst er
        simp [-D.isLit, hs]
  · have hjp : 0 < j := by omega
    have hjp' : (0 : Int) < j := by omega
    obtain ⟨⟨a', k', o', x', y', l'⟩, hz, hzl⟩ := hlast (j - 1) (by omega)
    have hzl : a' = last := hzl
    subst hzl
    have hj1 : j - 1 < f.length := by omega
    have hj2 : (j : Int) - 1 < f.length := by omega
    have hj3 : 0 ≤ (j : Int) - 1 := by omega
    have hj4 : (1 : Int) ≤ j := by omega
    have hj5 : 1 ≤ j := by omega
    have wj : IntKind.i64.wrap ((j : Int) - 1) = (j : Int) - 1 := i64_id _ (by omega) (by omega)
    have e3 : ix (f.map EFeat.e) (j - 1) = some (EFeat.e (a', k', o', x', y', l')) := by unfold ix; rw [List.getElem?_map, hz]; rfl
    have e4 : ix (f.map EFeat.e) ((j : Int) - 1).toNat = some (EFeat.e (a', k', o', x', y', l')) := by rw [show ((j : Int) - 1).toNat = j - 1 by omega]; exact e3
    by_cases c3 : a ≤ a'
    · have er : r = false := by rw [← hr, decide_eq_false (show ¬ (a' < a ∧ a ≤ 1000) by omega)]; simp
      subst er
      simp [-D.isLit, sHoS, h, e1, c1, c2, hjp, hjp', hj1, hj2, hj3, hj4, hj5, wj, e3, e4, c3]
    have hlt : a' < a := by omega
    by_cases c4 : ndOk k l.length
    case neg =>
      have er : r = false := by rw [← hr, decide_eq_false c4]; rfl
      subst er
      simp [-D.isLit, sHoS, h, e1, c1, c2, hjp, hjp', hj1, hj2, hj3, hj4, hj5, wj, e3, e4, c3, c4]
    have hr : ((decide (useOk (ndK k) ks x y) && l.all (termB v.length)) && histL v.length a (List.take (j + 1) (List.map (fun x => x.1) f)) (f.drop (j + 1))) = r := by
      rw [← hr, decide_eq_true c4, decide_eq_true (show a' < a ∧ a ≤ 1000 by omega)]; rfl
    have hn : ndK k = 0 ∨ ndK k = 1 ∨ ndK k = 2 := by unfold ndK; split <;> (try split) <;> simp
    rcases hn with hn | hn | hn
    · have c5 : useOk (ndK k) ks x y ↔ (x = 0 ∧ y = 0) := by rw [hn]; unfold useOk; simp
      by_cases d1 : x = 0
      case neg =>
        have er : r = false := by rw [← hr, decide_eq_false (fun h => d1 (c5.1 h).1)]; rfl
        subst er
        simp [-D.isLit, -l19FC_at, sHoS, h, e1, c1, c2, hjp, hjp', hj1, hj2, hj3, hj4, hj5, wj, e3, e4, c3, c4, hn, cfx, cfy, d1]
      by_cases d2 : y = 0
      case neg =>
        have er : r = false := by rw [← hr, decide_eq_false (fun h => d2 (c5.1 h).2)]; rfl
        subst er
        simp [-D.isLit, -l19FC_at, sHoS, h, e1, c1, c2, hjp, hjp', hj1, hj2, hj3, hj4, hj5, wj, e3, e4, c3, c4, hn, cfx, cfy, d1, d2]
      have hr : (l.all (termB v.length) && histL v.length a (List.take (j + 1) (List.map (fun x => x.1) f)) (f.drop (j + 1))) = r := by rw [← hr, decide_eq_true (c5.2 ⟨d1, d2⟩)]; rfl
      simp [-D.isLit, -l19FC_at, sHoS, h, e1, c1, c2, hjp, hjp', hj1, hj2, hj3, hj4, hj5, wj, e3, e4, c3, c4, hn, cfx, cfy, d1, d2]
      refine sHo_in v f j a k o x y l hl ht64 (snd_obs (n := 169) [(1, 1, .box (.agg [.sl 2 (v.map EQ.e), .sl 6 (f.map EFeat.e)])), (5, 5, .box (.agg [.lit (.int .i64 a), .lit (.int .i64 k), .lit (.bool o), .lit (.int .i64 x), .lit (.int .i64 y), .sl 5 (l.map ETerm.e)]))] rfl (by simp [d1, d2]) (by simp [sHoT])) (fun hall => ?_) (fun hall s hs => ?_)
      · have hr : histL v.length a (List.take (j + 1) (List.map (fun x => x.1) f)) (f.drop (j + 1)) = r := by rw [← hr, hall]; rfl
        simp [-D.isLit, sHoX, w1]
        refine hN _ (nx (m := f.length - (j + 1)) (s'' := sHoS v f (j + 1)) (snd_obs (n := 169) [(1, 1, .box (.agg [.sl 2 (v.map EQ.e), .sl 6 (f.map EFeat.e)]))] rfl (by simp) (by simp [sHoS])) ⟨j + 1, a, rfl, h, by omega, fun h => by omega, fun m hm => by
          obtain rfl : m = j := by omega
          exact ⟨_, hx, rfl⟩, hr, rfl⟩ (by omega))
      · have er : r = false := by rw [← hr, hall]; rfl
        subst er
        simp [-D.isLit, hs]
    · have c5 : useOk (ndK k) ks x y ↔ (x ∈ ks ∧ y = 0) := by rw [hn]; unfold useOk; simp
      by_cases d1 : x ∈ ks
      case neg =>
        have er : r = false := by rw [← hr, decide_eq_false (fun h => d1 (c5.1 h).1)]; rfl
        subst er
        have gx : fnd ks x < 0 := (fnd_neg ks x).2 d1
        simp [-D.isLit, -l19FC_at, sHoS, h, e1, c1, c2, hjp, hjp', hj1, hj2, hj3, hj4, hj5, wj, e3, e4, c3, c4, hn, cfx, cfy, gx]
      have gx : ¬ fnd ks x < 0 := fun hf => (fnd_neg ks x).1 hf d1
      by_cases d2 : y = 0
      case neg =>
        have er : r = false := by rw [← hr, decide_eq_false (fun h => d2 (c5.1 h).2)]; rfl
        subst er
        simp [-D.isLit, -l19FC_at, sHoS, h, e1, c1, c2, hjp, hjp', hj1, hj2, hj3, hj4, hj5, wj, e3, e4, c3, c4, hn, cfx, cfy, gx, d2]
      have hr : (l.all (termB v.length) && histL v.length a (List.take (j + 1) (List.map (fun x => x.1) f)) (f.drop (j + 1))) = r := by rw [← hr, decide_eq_true (c5.2 ⟨d1, d2⟩)]; rfl
      simp [-D.isLit, -l19FC_at, sHoS, h, e1, c1, c2, hjp, hjp', hj1, hj2, hj3, hj4, hj5, wj, e3, e4, c3, c4, hn, cfx, cfy, gx, d2]
      refine sHo_in v f j a k o x y l hl ht64 (snd_obs (n := 169) [(1, 1, .box (.agg [.sl 2 (v.map EQ.e), .sl 6 (f.map EFeat.e)])), (5, 5, .box (.agg [.lit (.int .i64 a), .lit (.int .i64 k), .lit (.bool o), .lit (.int .i64 x), .lit (.int .i64 y), .sl 5 (l.map ETerm.e)]))] rfl (by simp [d1, d2]) (by simp [sHoT])) (fun hall => ?_) (fun hall s hs => ?_)
      · have hr : histL v.length a (List.take (j + 1) (List.map (fun x => x.1) f)) (f.drop (j + 1)) = r := by rw [← hr, hall]; rfl
        simp [-D.isLit, sHoX, w1]
        refine hN _ (nx (m := f.length - (j + 1)) (s'' := sHoS v f (j + 1)) (snd_obs (n := 169) [(1, 1, .box (.agg [.sl 2 (v.map EQ.e), .sl 6 (f.map EFeat.e)]))] rfl (by simp) (by simp [sHoS])) ⟨j + 1, a, rfl, h, by omega, fun h => by omega, fun m hm => by
          obtain rfl : m = j := by omega
          exact ⟨_, hx, rfl⟩, hr, rfl⟩ (by omega))
      · have er : r = false := by rw [← hr, hall]; rfl
        subst er
        simp [-D.isLit, hs]
    · have c5 : useOk (ndK k) ks x y ↔ (x ∈ ks ∧ y ∈ ks) := by rw [hn]; unfold useOk; simp
      by_cases d1 : x ∈ ks
      case neg =>
        have er : r = false := by rw [← hr, decide_eq_false (fun h => d1 (c5.1 h).1)]; rfl
        subst er
        have gx : fnd ks x < 0 := (fnd_neg ks x).2 d1
        simp [-D.isLit, -l19FC_at, sHoS, h, e1, c1, c2, hjp, hjp', hj1, hj2, hj3, hj4, hj5, wj, e3, e4, c3, c4, hn, cfx, cfy, gx]
      have gx : ¬ fnd ks x < 0 := fun hf => (fnd_neg ks x).1 hf d1
      by_cases d2 : y ∈ ks
      case neg =>
        have er : r = false := by rw [← hr, decide_eq_false (fun h => d2 (c5.1 h).2)]; rfl
        subst er
        have gy : fnd ks y < 0 := (fnd_neg ks y).2 d2
        simp [-D.isLit, -l19FC_at, sHoS, h, e1, c1, c2, hjp, hjp', hj1, hj2, hj3, hj4, hj5, wj, e3, e4, c3, c4, hn, cfx, cfy, gx, gy]
      have gy : ¬ fnd ks y < 0 := fun hf => (fnd_neg ks y).1 hf d2
      have hr : (l.all (termB v.length) && histL v.length a (List.take (j + 1) (List.map (fun x => x.1) f)) (f.drop (j + 1))) = r := by rw [← hr, decide_eq_true (c5.2 ⟨d1, d2⟩)]; rfl
      simp [-D.isLit, -l19FC_at, sHoS, h, e1, c1, c2, hjp, hjp', hj1, hj2, hj3, hj4, hj5, wj, e3, e4, c3, c4, hn, cfx, cfy, gx, gy]
      refine sHo_in v f j a k o x y l hl ht64 (snd_obs (n := 169) [(1, 1, .box (.agg [.sl 2 (v.map EQ.e), .sl 6 (f.map EFeat.e)])), (5, 5, .box (.agg [.lit (.int .i64 a), .lit (.int .i64 k), .lit (.bool o), .lit (.int .i64 x), .lit (.int .i64 y), .sl 5 (l.map ETerm.e)]))] rfl (by simp [d1, d2]) (by simp [sHoT])) (fun hall => ?_) (fun hall s hs => ?_)
      · have hr : histL v.length a (List.take (j + 1) (List.map (fun x => x.1) f)) (f.drop (j + 1)) = r := by rw [← hr, hall]; rfl
        simp [-D.isLit, sHoX, w1]
        refine hN _ (nx (m := f.length - (j + 1)) (s'' := sHoS v f (j + 1)) (snd_obs (n := 169) [(1, 1, .box (.agg [.sl 2 (v.map EQ.e), .sl 6 (f.map EFeat.e)]))] rfl (by simp) (by simp [sHoS])) ⟨j + 1, a, rfl, h, by omega, fun h => by omega, fun m hm => by
          obtain rfl : m = j := by omega
          exact ⟨_, hx, rfl⟩, hr, rfl⟩ (by omega))
      · have er : r = false := by rw [← hr, hall]; rfl
        subst er
        simp [-D.isLit, hs]
theorem sHo_ok : callable Try.prog 11 = true := by kernel_rfl
end Go.Proofs.Ytojbfdkpelldoaa.Ae

namespace Go.Proofs.Ytojbfdkpelldoaa.Ae
open Go Go.RowKit Go.Proofs.Ytojbfdkpelldoaa.Dig
theorem szTs_small : ∀ (l : List FeatT) (n : Int), 0 ≤ n → n ≤ 1048576 → ¬ szTs l n < 0 → ∀ x ∈ l, featS x
  | [], n, _, _, _, x, hx => by cases hx
  | z :: l, n, h0, h1, h, x, hx => by
    unfold szTs at h
    by_cases h2 : n < z.2.2.2.2.2.length
    · rw [if_pos h2] at h; omega
    · rw [if_neg h2] at h
      rcases List.mem_cons.1 hx with rfl | hx
      · unfold featS; omega
      · exact szTs_small l _ (by omega) (by omega) h x hx
theorem szH_small {p : HistT} (h : ¬ szH p 1048576 < 0) : histS p := by
  unfold szH szL8 at h
  by_cases h1 : (1048576 : Int) < p.1.length
  · rw [if_pos h1, if_pos (by omega)] at h; omega
  · rw [if_neg h1, if_neg (by omega)] at h
    unfold szFs at h
    by_cases h2 : (1048576 : Int) - p.1.length < p.2.length
    · rw [if_pos h2] at h; omega
    · rw [if_neg h2] at h
      exact ⟨by omega, by omega, szTs_small p.2 _ (by omega) (by omega) h⟩
noncomputable def lwHoC := ct1 EHist hist64 (fun p => [.lit (.bool true)])
theorem lwHoC_at (v : List (Int × Int)) (f : List FeatT) : lwHoC [.agg [.sl 2 (v.map EQ.e), .sl 6 (f.map EFeat.e)]] = (hist64 (v, f), [.lit (.bool true)]) := ct1_at (A := EHist) (v, f)
noncomputable def lwHoTb : List (FuncId × Ct) := [(10, .data szHC), (12, .data toHC), (13, .data hOkC), (11, .data hOkC), (14, .data eqHC)]
theorem lwHoTb_ok : TbOK NF Try.prog (tbl lwHoTb) := tbl_cons (c := .data szHC) szH_spec szH_ok (tbl_cons (c := .data toHC) toH_spec toH_ok (tbl_cons (c := .data hOkC) iHo_spec iHo_ok (tbl_cons (c := .data hOkC) sHo_spec sHo_ok (tbl_cons (c := .data eqHC) eqH_spec eqH_ok tbl_nil))))
@[simp] theorem lwHoTb1 : tbl lwHoTb 10 = some (.data szHC) := rfl
@[simp] theorem lwHoTb2 : tbl lwHoTb 12 = some (.data toHC) := rfl
@[simp] theorem lwHoTb3 : tbl lwHoTb 13 = some (.data hOkC) := rfl
@[simp] theorem lwHoTb4 : tbl lwHoTb 11 = some (.data hOkC) := rfl
@[simp] theorem lwHoTb5 : tbl lwHoTb 14 = some (.data eqHC) := rfl
set_option maxRecDepth 100000 in
theorem lwHo_spec : SpecD NF Try.prog 4 lwHoC := by
  refine rd1 (mf := fun f => false) lwHoTb_ok (fn := Try.f4) (by kernel_rfl) rfl (by kernel_rfl) (by kernel_rfl) ?_
  rintro ⟨v, f⟩ h64
  have hl1 : v.length ≤ 9223372036854775807 := h64.1.1
  have hl2 : f.length ≤ 9223372036854775807 := h64.2.1
  have hl3 : ∀ x ∈ f, feat64 x := fun x hx => (h64.2.2 x hx).2.1
  have c0 := szHC_at v f 1048576
  show awp _ _ _ _ (start _ ([.agg [.sl 2 (v.map EQ.e), .sl 6 (f.map EFeat.e)]].map .dat) []) (endK _ _ _ ([D.lit (.bool true)].map .dat) [])
  have hsm := szH_small (p := (v, f))
  rw [eq_true (⟨⟨hl1, hl2, hl3⟩, by omega, by omega⟩ : (v.length ≤ 9223372036854775807 ∧ f.length ≤ 9223372036854775807 ∧ ∀ x ∈ f, feat64 x) ∧ (0 : Int) ≤ 1048576 ∧ (1048576 : Int) < 4611686018427387904)] at c0
  generalize szH (v, f) 1048576 = s at *
  by_cases h : s < 0
  · simp [-D.isLit, -szHC_at, Try.f4, c0, h]
  · have hs := hsm h
    have c1 := hOkC_at v f
    have hP : histP (v, f) := ⟨hs, h64⟩
    rw [eq_true hP] at c1
    generalize histB (v, f) = r at c1
    simp [-D.isLit, -szHC_at, -hOkC_at, Try.f4, c0, h, hs, c1]
set_option maxRecDepth 100000 in
theorem lwHistoryOk_calls {d0 : D} (s0 : shp Try.prog 8 36 d0) {v0 : Value} {w : World} (hrep : RepVs NF (fun b => b < w.heap.size) w [d0] [v0]) :
    Calls Try.prog 4 #[v0] w fun e w' => e = .returned (.bool true) ∧ Below w.heap.size w w' := by
  obtain ⟨⟨v, f⟩, rfl, hp⟩ := shp_Hist (n := 1) s0
  exact law_callsM lwHo_spec (ds := [.agg [.sl 2 (v.map EQ.e), .sl 6 (f.map EFeat.e)]]) (by rw [lwHoC_at]; exact hp) (by rw [lwHoC_at]; rfl) (vs := [v0]) hrep
end Go.Proofs.Ytojbfdkpelldoaa.Ae
