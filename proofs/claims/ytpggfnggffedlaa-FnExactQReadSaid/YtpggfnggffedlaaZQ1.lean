/- Of our texts what the law leans on, in the order in which they build: B1, B2, B3, B4, B5, B6, B7, B8, B9, B10, B11, B12. No condition. -/
import Derived.Orders
import Derived.Below
import Derived.Laws.CopyRow
import Derived.Laws.Cells
import Derived.Tactics
import Derived.RowKit
import Derived.Maps.RangeRun
import Derived.DeepKeys
import Derived.Laws.OwnMore
import Derived.Laws.FloatArith
import Derived.Laws.Concat
import Derived.Laws.BytesString
import Derived.Laws.CopyOwn
import Derived.Laws.Tables
import Derived.Maps.AppendAt
import Derived.Deep.Upon
import Derived.Great.BuildSlice
import Derived.Laws.Slices
set_option linter.unusedVariables false
set_option linter.unusedSimpArgs false
namespace Go.Proofs.Ytpggfnggffedlaa.Ae
open Go Go.RowKit
inductive D where
  | lit (v : Value)
  | num (k : Nat) (q : Rat)
  | agg (ds : List D)
  | sl (sz : Nat) (xs : List D)
  | ptr (d : D)
def nsz (k : Nat) : Nat := if k = 0 then 3 else if k = 1 then 3 else if k = 2 then 2 else 1
def nagg (k : Nat) : Bool := decide (k < 3)
mutual
def D.size : D → Nat
  | .lit _ => 1
  | .num k _ => nsz k
  | .agg ds => D.sizes ds
  | .sl _ _ => 1
  | .ptr _ => 1
def D.sizes : List D → Nat
  | [] => 0
  | d :: ds => D.size d + D.sizes ds
end
def D.isAgg : D → Bool
  | .agg _ => true
  | .num k _ => nagg k
  | _ => false
structure NR where
  R : Nat → (Nat → Prop) → World → Rat → List Value → Prop
  len : ∀ {k F w q cs}, R k F w q cs → cs.length = nsz k
  one : ∀ {k F w q cs}, R k F w q cs → ∀ v ∈ cs, v.oneCell' = true
  mono : ∀ {k} {F F' : Nat → Prop} {w w' : World} {q cs}, (∀ b, F b → F' b ∧ w'.heap[b]? = w.heap[b]?) → R k F w q cs → R k F' w' q cs
  ok : (Nat → Prop) → World → Prop := fun _ _ => True
  okm : ∀ {F F' : Nat → Prop} {w w' : World}, (∀ b, F b → F' b ∧ w'.heap[b]? = w.heap[b]?) → ok F w → ok F' w' := by intros; trivial
def mpEnt (e : MapEntry) : Value := .tuple #[e.key, e.val]
def itK : TypeId := 1000000007
def itS : TypeId := 1000000009
def mapT (t : TypeId) : Bool := t != itK && t != itS
def MpR (F : Nat → Prop) (w : World) (t : TypeId) (ks : List Value) (v : Value) (ob : Obj) : Prop :=
  (mapT t = true ∧ (∃ b, v = .map (some b)) ∧ ∃ es clock, ob = .map es clock ∧ MapKept.Stamped es clock ∧ ks = es.toList.map mpEnt) ∨
  (t = itK ∧ ∃ r m es clock since seen c0, v = .pointer (some ⟨r, 0, none⟩) ∧ ob = .mapIter (some m) since seen c0 ∧ F m ∧ w.heap[m]? = some (.map es clock) ∧ MapKept.Stamped es clock ∧ (∀ x ∈ es.toList, x.born < since) ∧ since ≤ c0 ∧ since ≤ clock ∧
    ((seen = #[] ∧ ks = .bool false :: es.toList.map mpEnt) ∨ ∃ e ∈ es.toList, ∃ seen' : Array Nat, seen = seen'.push e.born ∧ c0 = clock ∧ ks = mpEnt e :: (leftOf es seen).toList.map mpEnt)) ∨
  (t = itS ∧ ∃ r s pos, v = .pointer (some ⟨r, 0, none⟩) ∧ ob = .stringIter s pos ∧ ks = [.string s, .int .i64 pos])
theorem MpR.mono {F F' : Nat → Prop} {w w' : World} {t : TypeId} {ks : List Value} {v : Value} {ob : Obj} (h : MpR F w t ks v ob) (hF : ∀ b, F b → F' b ∧ w'.heap[b]? = w.heap[b]?) : MpR F' w' t ks v ob := by
  rcases h with h | ⟨rfl, r, m, es, clock, since, seen, c0, h1, h2, h3, h4, h5⟩ | h
  · exact Or.inl h
  · exact Or.inr (Or.inl ⟨rfl, r, m, es, clock, since, seen, c0, h1, h2, (hF m h3).1, (hF m h3).2.trans h4, h5⟩)
  · exact Or.inr (Or.inr h)
theorem MpR.map {F : Nat → Prop} {w : World} {t : TypeId} {ks : List Value} {v : Value} {ob : Obj} (h : MpR F w t ks v ob) (ht : mapT t = true) : (∃ b, v = .map (some b)) ∧ ∃ es clock, ob = .map es clock ∧ MapKept.Stamped es clock ∧ ks = es.toList.map mpEnt := by
  rcases h with ⟨_, h⟩ | ⟨rfl, _⟩ | ⟨rfl, _⟩
  · exact h
  · cases ht
  · cases ht
theorem MpR.new {F : Nat → Prop} {w : World} {t : TypeId} {b : Nat} (ht : mapT t = true) : MpR F w t [] (.map (some b)) (.map #[] 0) := Or.inl ⟨ht, ⟨b, rfl⟩, #[], 0, rfl, ⟨by simp, by simp, by simp⟩, rfl⟩
def Cells (w : World) (b off : Nat) (es : List Value) : Prop := ∀ j v, es[j]? = some v → w.cell? ⟨b, off + j, none⟩ = some v
inductive Rep (N : NR) (F : Nat → Prop) (w : World) : D → List Value → Prop
  | lit {v : Value} (h : v.oneCell' = true) : Rep N F w (.lit v) [v]
  | num {k : Nat} {q : Rat} {cs : List Value} (h : N.R k F w q cs) : Rep N F w (.num k q) cs
  | agg {ds : List D} {css : List (List Value)} (hl : css.length = ds.length) (h : ∀ (i : Nat) (d : D) (cs : List Value), ds[i]? = some d → css[i]? = some cs → Rep N F w d cs) : Rep N F w (.agg ds) css.flatten
  | sl {sz : Nat} {xs : List D} (A : Option Addr) (c : Nat) (es : Nat → List Value) (hc : xs.length ≤ c) (hm : c ≤ maxLen)
      (ha : 0 < xs.length → ∃ (b off : Nat), A = some ⟨b, off, none⟩ ∧ F b ∧ ∀ (i : Nat), i < xs.length → (es i).length = sz ∧ Cells w b (off + i * sz) (es i))
      (h : ∀ (i : Nat) (d : D), xs[i]? = some d → Rep N F w d (es i)) : Rep N F w (.sl sz xs) [.slice A xs.length c]
  | ptr {d : D} (b off : Nat) (es : List Value) (hb : F b) (hc : Cells w b off es) (h : Rep N F w d es) : Rep N F w (.ptr d) [.pointer (some ⟨b, off, none⟩)]
theorem flatten_len : ∀ (ds : List D) (css : List (List Value)), css.length = ds.length → (∀ (i : Nat) (d : D) (cs : List Value), ds[i]? = some d → css[i]? = some cs → cs.length = d.size) → css.flatten.length = D.sizes ds
  | [], [], _, _ => rfl
  | d :: ds, cs :: css, hl, h => by
    simp only [List.flatten_cons, List.length_append, D.sizes]
    rw [h 0 d cs rfl rfl, flatten_len ds css (by simpa using hl) (fun i d' cs' h1 h2 => h (i + 1) d' cs' (by simpa using h1) (by simpa using h2))]
  | [], _ :: _, hl, _ => by simp at hl
  | _ :: _, [], hl, _ => by simp at hl
theorem Rep.len {N : NR} {F : Nat → Prop} {w : World} {d : D} {cs : List Value} (h : Rep N F w d cs) : cs.length = d.size := by
  induction h with
  | lit h => rfl
  | num h => exact N.len h
  | agg hl h ih => exact flatten_len _ _ hl ih
  | sl A c es hc hm ha h ih => rfl
  | ptr b off es hb hc h ih => rfl
theorem Rep.one {N : NR} {F : Nat → Prop} {w : World} {d : D} {cs : List Value} (h : Rep N F w d cs) : ∀ v ∈ cs, v.oneCell' = true := by
  induction h with
  | lit h => intro v hv; simp at hv; subst hv; exact h
  | num h => exact N.one h
  | @agg ds css hl h ih =>
    intro v hv
    obtain ⟨cs, hcs, hv⟩ := List.mem_flatten.1 hv
    obtain ⟨i, hi⟩ := List.getElem?_of_mem hcs
    have hlt : i < ds.length := by
      have := (List.getElem?_eq_some_iff.1 hi).1
      omega
    exact ih i ds[i] cs (List.getElem?_eq_getElem hlt) hi v hv
  | sl A c es hc hm ha h ih => intro v hv; simp at hv; subst hv; rfl
  | ptr b off es hb hc h ih => intro v hv; simp at hv; subst hv; rfl
theorem Cells.move {w w' : World} {b off : Nat} {es : List Value} (hb : w'.heap[b]? = w.heap[b]?) (h : Cells w b off es) : Cells w' b off es := by
  intro j v hj
  have := h j v hj
  rw [← this]
  exact World.cell?_of_block (w := w) hb
theorem Rep.mono {N : NR} {F F' : Nat → Prop} {w w' : World} {d : D} {cs : List Value} (hF : ∀ b, F b → F' b ∧ w'.heap[b]? = w.heap[b]?) (h : Rep N F w d cs) : Rep N F' w' d cs := by
  induction h with
  | lit h => exact .lit h
  | num h => exact .num (N.mono hF h)
  | agg hl h ih => exact .agg hl ih
  | sl A c es hc hm ha h ih =>
    refine .sl A c es hc hm (fun hp => ?_) ih
    obtain ⟨b, off, e, hb, hs⟩ := ha hp
    exact ⟨b, off, e, (hF b hb).1, fun i hi => ⟨(hs i hi).1, (hs i hi).2.move (hF b hb).2⟩⟩
  | ptr b off es hb hc h ih => exact .ptr b off es (hF b hb).1 (hc.move (hF b hb).2) ih
def mkV (d : D) (cs : List Value) : Value := if d.isAgg then .agg cs.toArray else cs.headD undef
def RepV (N : NR) (F : Nat → Prop) (w : World) (d : D) (v : Value) : Prop := ∃ cs, Rep N F w d cs ∧ v = mkV d cs
theorem D.one_cell {d : D} (h : d.isAgg = false) : d.size = 1 := by
  cases d with
  | lit v => rfl
  | num k q =>
    simp only [D.isAgg, nagg, decide_eq_false_iff_not] at h
    simp only [D.size, nsz]
    rw [if_neg (by omega), if_neg (by omega), if_neg (by omega)]
  | agg ds => simp [D.isAgg] at h
  | sl sz xs => rfl
  | ptr d => rfl
theorem RepV.cells {N : NR} {F : Nat → Prop} {w : World} {d : D} {v : Value} (h : RepV N F w d v) : Rep N F w d v.cells.toList := by
  obtain ⟨cs, h, rfl⟩ := h
  unfold mkV
  split
  · simpa [Value.cells] using h
  · rename_i hd
    have hl := h.len
    rw [D.one_cell (by simpa using hd)] at hl
    match cs, hl with
    | [c], _ =>
      have h1 := h.one c (by simp)
      have : c.cells = #[c] := by cases c <;> first | rfl | simp [Value.oneCell'] at h1
      simpa [this] using h
theorem RepV.mono {N : NR} {F F' : Nat → Prop} {w w' : World} {d : D} {v : Value} (hF : ∀ b, F b → F' b ∧ w'.heap[b]? = w.heap[b]?) (h : RepV N F w d v) : RepV N F' w' d v := by
  obtain ⟨cs, h, e⟩ := h
  exact ⟨cs, h.mono hF, e⟩
theorem RepV.lit {N : NR} {F : Nat → Prop} {w : World} {u v : Value} (h : RepV N F w (.lit u) v) : v = u ∧ u.oneCell' = true := by
  obtain ⟨cs, h, rfl⟩ := h
  cases h with
  | lit h => exact ⟨rfl, h⟩
theorem RepV.of_lit {N : NR} {F : Nat → Prop} {w : World} {u : Value} (h : u.oneCell' = true) : RepV N F w (.lit u) u := ⟨[u], .lit h, rfl⟩
def nav : D → List Nat → Option (D × Nat)
  | d, [] => some (d, 0)
  | .agg ds, i :: p => match ds[i]? with
    | some d => match nav d p with
      | some (e, off) => some (e, D.sizes (ds.take i) + off)
      | none => none
    | none => none
  | _, _ :: _ => none
def upd : D → List Nat → D → D
  | _, [], e => e
  | .agg ds, i :: p, e => match ds[i]? with
    | some d => .agg (ds.set i (upd d p e))
    | none => .agg ds
  | d, _ :: _, _ => d
theorem flatten_take : ∀ (ds : List D) (css : List (List Value)) (i : Nat) (d : D) (cs : List Value), css.length = ds.length → (∀ (i : Nat) (d : D) (cs : List Value), ds[i]? = some d → css[i]? = some cs → cs.length = d.size) → ds[i]? = some d → css[i]? = some cs →
    (css.flatten.drop (D.sizes (ds.take i))).take d.size = cs ∧ D.sizes (ds.take i) + d.size ≤ css.flatten.length
  | [], _, i, d, cs, _, _, h1, _ => by simp at h1
  | _ :: _, [], i, d, cs, hl, _, _, _ => by simp at hl
  | d0 :: ds, c0 :: css, 0, d, cs, hl, h, h1, h2 => by
    simp at h1 h2
    subst h1 h2
    have := h 0 d0 c0 rfl rfl
    simp only [List.take_zero, D.sizes, List.drop_zero, List.flatten_cons, List.length_append]
    constructor
    · rw [← this]; simp
    · omega
  | d0 :: ds, c0 :: css, i + 1, d, cs, hl, h, h1, h2 => by
    have h0 := h 0 d0 c0 rfl rfl
    obtain ⟨k1, k2⟩ := flatten_take ds css i d cs (by simpa using hl) (fun i d' cs' h1 h2 => h (i + 1) d' cs' (by simpa using h1) (by simpa using h2)) (by simpa using h1) (by simpa using h2)
    simp only [List.take_succ_cons, D.sizes, List.flatten_cons, List.length_append]
    constructor
    · rw [← k1, List.drop_append, List.drop_eq_nil_of_le (by omega), List.nil_append]
      congr 2
      omega
    · omega
theorem nav_rep {N : NR} {F : Nat → Prop} {w : World} : ∀ (p : List Nat) (d : D) (cs : List Value) (e : D) (off : Nat), Rep N F w d cs → nav d p = some (e, off) → Rep N F w e ((cs.drop off).take e.size) ∧ off + e.size ≤ cs.length
  | [], d, cs, e, off, h, hn => by
    simp only [nav, Option.some.injEq, Prod.mk.injEq] at hn
    obtain ⟨rfl, rfl⟩ := hn
    have := h.len
    simp only [List.drop_zero, Nat.zero_add]
    rw [List.take_of_length_le (by omega)]
    exact ⟨h, by omega⟩
  | i :: p, .agg ds, cs, e, off, h, hn => by
    simp only [nav] at hn
    cases hd : ds[i]? with
    | none => simp [hd] at hn
    | some d =>
      simp only [hd] at hn
      cases hp : nav d p with
      | none => simp [hp] at hn
      | some r =>
        obtain ⟨e', off'⟩ := r
        simp only [hp, Option.some.injEq, Prod.mk.injEq] at hn
        obtain ⟨rfl, rfl⟩ := hn
        cases h with
        | @agg _ css hl h =>
          have hi : i < css.length := by have := (List.getElem?_eq_some_iff.1 hd).1; omega
          have hc := List.getElem?_eq_getElem hi
          have hr := h i d css[i] hd hc
          obtain ⟨k1, k2⟩ := flatten_take ds css i d css[i] hl (fun i d cs h1 h2 => (h i d cs h1 h2).len) hd hc
          obtain ⟨m1, m2⟩ := nav_rep p d css[i] e' off' hr hp
          have hlen := hr.len
          refine ⟨?_, by omega⟩
          rw [← k1] at m1
          rw [List.drop_take, List.drop_drop] at m1
          rw [List.take_take] at m1
          rwa [Nat.min_eq_left (by omega)] at m1
  | _ :: _, .lit _, _, _, _, _, hn => by simp [nav] at hn
  | _ :: _, .num _ _, _, _, _, _, hn => by simp [nav] at hn
  | _ :: _, .sl _ _, _, _, _, _, hn => by simp [nav] at hn
  | _ :: _, .ptr _, _, _, _, _, hn => by simp [nav] at hn
theorem flatten_set : ∀ (css : List (List Value)) (i : Nat) (c c' : List Value), css[i]? = some c → c'.length = c.length →
    (css.set i c').flatten = css.flatten.take (css.take i).flatten.length ++ c' ++ css.flatten.drop ((css.take i).flatten.length + c'.length)
  | [], i, c, c', h, _ => by simp at h
  | c0 :: css, 0, c, c', h, hl => by
    simp at h
    subst h
    simp [hl]
  | c0 :: css, i + 1, c, c', h, hl => by
    simp only [List.set_cons_succ, List.flatten_cons, List.take_succ_cons, List.length_append]
    rw [flatten_set css i c c' (by simpa using h) hl]
    have e1 := List.take_length_add_append (l₁ := c0) (l₂ := css.flatten) (i := (css.take i).flatten.length)
    have e2 := List.drop_length_add_append (l₁ := c0) (l₂ := css.flatten) (i := (css.take i).flatten.length + c'.length)
    rw [e1, Nat.add_assoc, e2]
    simp only [List.append_assoc]
theorem sizes_take_len : ∀ (ds : List D) (css : List (List Value)) (i : Nat), css.length = ds.length → (∀ (i : Nat) (d : D) (cs : List Value), ds[i]? = some d → css[i]? = some cs → cs.length = d.size) → (css.take i).flatten.length = D.sizes (ds.take i) := by
  intro ds css i hl h
  refine flatten_len _ _ (by simp [hl]) (fun j d cs h1 h2 => ?_)
  rw [List.getElem?_take] at h1 h2
  split at h1
  · rename_i hj
    rw [if_pos hj] at h2
    exact h j d cs h1 h2
  · simp at h1
theorem drop_split {α : Type} (L : List α) (a n m : Nat) (h : a + n ≤ L.length) (hm : m ≤ n) : L.drop (a + m) = ((L.drop a).take n).drop m ++ L.drop (a + n) := by
  have e : L.drop (a + m) = (L.drop a).drop m := by rw [List.drop_drop]
  rw [e]
  conv => lhs; rw [← List.take_append_drop n (L.drop a)]
  rw [List.drop_append_of_le_length (by simp; omega), List.drop_drop]
theorem upd_rep {N : NR} {F : Nat → Prop} {w : World} : ∀ (p : List Nat) (d : D) (cs : List Value) (e : D) (off : Nat) (x : D) (xs : List Value), Rep N F w d cs → nav d p = some (e, off) → Rep N F w x xs → x.size = e.size →
    Rep N F w (upd d p x) (cs.take off ++ xs ++ cs.drop (off + x.size))
  | [], d, cs, e, off, x, xs, h, hn, hx, hs => by
    simp only [nav, Option.some.injEq, Prod.mk.injEq] at hn
    obtain ⟨rfl, rfl⟩ := hn
    have := h.len
    simp only [upd, List.take_zero, List.nil_append]
    rw [List.drop_eq_nil_of_le (by omega), List.append_nil]
    exact hx
  | i :: p, .agg ds, cs, e, off, x, xs, h, hn, hx, hs => by
    simp only [nav] at hn
    cases hd : ds[i]? with
    | none => simp [hd] at hn
    | some d =>
      simp only [hd] at hn
      cases hp : nav d p with
      | none => simp [hp] at hn
      | some r =>
        obtain ⟨e', off'⟩ := r
        simp only [hp, Option.some.injEq, Prod.mk.injEq] at hn
        obtain ⟨rfl, rfl⟩ := hn
        cases h with
        | @agg _ css hl h =>
          have hi : i < css.length := by have := (List.getElem?_eq_some_iff.1 hd).1; omega
          have hc := List.getElem?_eq_getElem hi
          have hr := h i d css[i] hd hc
          have hlens : ∀ (i : Nat) (d : D) (cs : List Value), ds[i]? = some d → css[i]? = some cs → cs.length = d.size := fun i d cs h1 h2 => (h i d cs h1 h2).len
          have ih := upd_rep p d css[i] e' off' x xs hr hp hx hs
          obtain ⟨_, m2⟩ := nav_rep p d css[i] e' off' hr hp
          have hxl := hx.len
          have hrl := hr.len
          have hnew : (css[i].take off' ++ xs ++ css[i].drop (off' + x.size)).length = css[i].length := by
            simp only [List.length_append, List.length_take, List.length_drop]
            omega
          simp only [upd, hd]
          have hflat := flatten_set css i css[i] _ hc hnew
          have htake := sizes_take_len ds css i hl hlens
          rw [htake, hnew] at hflat
          obtain ⟨k1, k2⟩ := flatten_take ds css i d css[i] hl hlens hd hc
          have goal : (css.set i (css[i].take off' ++ xs ++ css[i].drop (off' + x.size))).flatten = css.flatten.take (D.sizes (ds.take i) + off') ++ xs ++ css.flatten.drop (D.sizes (ds.take i) + off' + x.size) := by
            rw [hflat]
            have e1 : css.flatten.take (D.sizes (ds.take i) + off') = css.flatten.take (D.sizes (ds.take i)) ++ css[i].take off' := by
              rw [List.take_add]
              congr 1
              rw [← k1, List.take_take, Nat.min_eq_left (by omega)]
            have e2 : css.flatten.drop (D.sizes (ds.take i) + off' + x.size) = css[i].drop (off' + x.size) ++ css.flatten.drop (D.sizes (ds.take i) + css[i].length) := by
              have := drop_split css.flatten (D.sizes (ds.take i)) d.size (off' + x.size) k2 (by omega)
              rw [k1] at this
              rw [hrl, ← this, Nat.add_assoc]
            rw [e1, e2]
            simp only [List.append_assoc]
          rw [← goal]
          refine .agg (by simp [hl]) (fun j d' cs' h1 h2 => ?_)
          rw [List.getElem?_set] at h1 h2
          by_cases hij : i = j
          · subst hij
            have hi' : i < ds.length := by omega
            simp only [if_true, hi, hi', Option.some.injEq] at h1 h2
            subst h1 h2
            exact ih
          · simp only [hij, if_false] at h1 h2
            exact h j d' cs' h1 h2
  | _ :: _, .lit _, _, _, _, _, _, _, hn, _, _ => by simp [nav] at hn
  | _ :: _, .num _ _, _, _, _, _, _, _, hn, _, _ => by simp [nav] at hn
  | _ :: _, .sl _ _, _, _, _, _, _, _, hn, _, _ => by simp [nav] at hn
  | _ :: _, .ptr _, _, _, _, _, _, _, hn, _, _ => by simp [nav] at hn
end Go.Proofs.Ytpggfnggffedlaa.Ae

namespace Go.Proofs.Ytpggfnggffedlaa.Ae
open Go Go.RowKit
inductive Rv where
  | dat (d : D)
  | ref (o : Nat)
inductive X where
  | any
  | und
  | dat (d : D)
  | tup (rs : List Rv)
  | obj (o : Nat) (path : List Nat) (off : Nat)
  | row (o : Nat)
  | elt (o : Nat) (i : Nat) (path : List Nat) (off : Nat)
  | win (o : Nat) (lo n : Nat)
  | arr (o sz n : Nat)
  | clo (f : FuncId) (ds : List D)
  | mpx (o : Nat)
def Rv.refs : Rv → List Nat
  | .dat _ => []
  | .ref o => [o]
def X.refs : X → List Nat
  | .obj o _ _ => [o]
  | .row o => [o]
  | .elt o _ _ _ => [o]
  | .win o _ _ => [o]
  | .arr o _ _ => [o]
  | .mpx o => [o]
  | .tup rs => rs.flatMap Rv.refs
  | _ => []
inductive Ob where
  | pbox (d : D)
  | box (d : D)
  | fbox (d : D)
  | row (sz : Nat) (e : TypeId) (xs : List D)
  | frow (sz : Nat) (e : TypeId) (xs : List D)
  | prow (sz : Nat) (e : TypeId) (cp : Nat) (xs : List D)
  | mp (t : TypeId) (ks : List Value)
def Ob.mine : Ob → Prop
  | .pbox _ => False
  | .prow _ _ _ _ => False
  | _ => True
def Ob.live : Ob → Bool
  | .pbox _ => true
  | .box _ => true
  | .row _ _ _ => true
  | .prow _ _ _ _ => true
  | .mp _ _ => true
  | _ => false
structure St where
  tm : List X
  ob : List (Option Ob)
def St.get (st : St) (t : Nat) : X := st.tm.getD t .any
def St.put (st : St) (dst : Option Nat) (x : X) : St := match dst with
  | some t => { st with tm := st.tm.set t x }
  | none => st
def St.obj (st : St) (o : Nat) : Option Ob := st.ob.getD o none
def St.box? (st : St) (o : Nat) : Option D := match st.obj o with
  | some (.pbox d) => some d
  | some (.box d) => some d
  | some (.fbox d) => some d
  | _ => none
def St.wbox? (st : St) (o : Nat) : Option D := match st.obj o with
  | some (.pbox d) => some d
  | some (.box d) => some d
  | _ => none
def setBox : Option Ob → D → Option Ob
  | some (.pbox _), d => some (.pbox d)
  | _, d => some (.box d)
def St.mayFreeze (st : St) (o : Nat) : Prop := match st.obj o with
  | some (.pbox _) => False
  | some (.prow _ _ _ _) => False
  | some (.mp _ _) => False
  | _ => True
def St.mp? (st : St) (o : Nat) : Option (TypeId × List Value) := match st.obj o with
  | some (.mp t ks) => some (t, ks)
  | _ => none
def St.row? (st : St) (o : Nat) : Option (Nat × TypeId × List D) := match st.obj o with
  | some (.row sz e xs) => some (sz, e, xs)
  | some (.frow sz e xs) => some (sz, e, xs)
  | some (.prow sz e cp xs) => some (sz, e, xs)
  | _ => none
def St.drow? (st : St) (o : Nat) : Option (Nat × TypeId × List D) := match st.obj o with
  | some (.row sz e xs) => some (sz, e, xs)
  | some (.frow sz e xs) => some (sz, e, xs)
  | _ => none
def ev (st : St) : Operand → X
  | .tmp t => st.get t
  | .const (.agg cs) => if cs.toList.all Value.oneCell' = true then .dat (.agg (cs.toList.map .lit)) else .any
  | .const v => if v.oneCell' = true then .dat (.lit v) else .any
  | .func f => .dat (.lit (.func (.func f) #[] #[]))
  | _ => .any
inductive Ar where
  | dat (d : D)
  | ref (i : Nat)
inductive Wr where
  | dat (d : D)
  | win (lo n : Nat)
inductive Ct where
  | data (g : List D → Prop × List D)
  | mut (md : List Bool) (g : List Ar → List D → Prop × List Rv × List D)
  | win (sz : Nat) (e : TypeId) (g : List D → Nat → Nat → List D → Prop × Option Wr × List D) (gd : List D → Prop × List D)
  | own (sz : Nat) (e : TypeId) (g : List D → Prop × List D)
  | ownb (g : List D → Prop × D)
  | mp (t : TypeId) (g : List Value → List D → Prop × List D × List Value)
structure Out where
  pre : Prop
  x : X
  up : List (Nat × Option Ob)
def Out.bad : Out := ⟨False, .any, []⟩
def Out.lit (v : Value) : Out := ⟨True, .dat (.lit v), []⟩
def intOp (op : BinOp) (k : IntKind) (x y : Int) : Out := match op with
  | .add => .lit (.int k (k.wrap (x + y)))
  | .sub => .lit (.int k (k.wrap (x - y)))
  | .mul => .lit (.int k (k.wrap (x * y)))
  | .quo => ⟨y ≠ 0, .dat (.lit (.int k (k.wrap (x.tdiv y)))), []⟩
  | .rem => ⟨y ≠ 0, .dat (.lit (.int k (x.tmod y))), []⟩
  | .eql => .lit (.bool (x == y))
  | .neq => .lit (.bool (x != y))
  | .lss => .lit (.bool (decide (x < y)))
  | .leq => .lit (.bool (decide (x ≤ y)))
  | .gtr => .lit (.bool (decide (x > y)))
  | .geq => .lit (.bool (decide (x ≥ y)))
  | .and => .lit (.int k (k.wrap (BitVec.ofInt k.bits x &&& BitVec.ofInt k.bits y).toNat))
  | .or => .lit (.int k (k.wrap (BitVec.ofInt k.bits x ||| BitVec.ofInt k.bits y).toNat))
  | .xor => .lit (.int k (k.wrap (BitVec.ofInt k.bits x ^^^ BitVec.ofInt k.bits y).toNat))
  | .andNot => .lit (.int k (k.wrap (BitVec.ofInt k.bits x &&& ~~~(BitVec.ofInt k.bits y)).toNat))
  | .shl => ⟨0 ≤ y, .dat (.lit (.int k (k.wrap (x * 2 ^ min y.toNat k.bits)))), []⟩
  | .shr => ⟨0 ≤ y, .dat (.lit (.int k (x.fdiv (2 ^ min y.toNat k.bits)))), []⟩
def floatOp (op : BinOp) (k : FloatKind) (x y : Nat) : Out := match op with
  | .eql => .lit (.bool (k.format.order x y == some .eq))
  | .neq => .lit (.bool (k.format.order x y != some .eq))
  | .lss => .lit (.bool (k.format.order x y == some .lt))
  | .leq => .lit (.bool (k.format.order x y == some .lt || k.format.order x y == some .eq))
  | .gtr => .lit (.bool (k.format.order x y == some .gt))
  | .geq => .lit (.bool (k.format.order x y == some .gt || k.format.order x y == some .eq))
  | op => ⟨(floatBits op k x y).isSome = true, .dat (.lit (.float k ((floatBits op k x y).getD 0))), []⟩
def strOp (op : BinOp) (x y : ByteArray) : Out := match op with
  | .add => ⟨x.size + y.size ≤ 9223372036854775807, .dat (.lit (.string (x ++ y))), []⟩
  | .eql => .lit (.bool (x.toList == y.toList))
  | .neq => .lit (.bool (!(x.toList == y.toList)))
  | .lss => .lit (.bool (Op.bytesLess x.toList y.toList))
  | _ => .bad
def bytesDs : List D → Option (List Int)
  | [] => some []
  | .lit (.int .u8 n) :: ds => match bytesDs ds with
    | some ns => some (n :: ns)
    | none => none
  | _ :: _ => none
def strOf (ns : List Int) : ByteArray := ns.foldl (fun r n => r.push (UInt8.ofNat n.toNat)) ByteArray.empty
mutual
def flatD : D → Option (List Value)
  | .lit v => some [v]
  | .agg ds => flatDs ds
  | _ => none
def flatDs : List D → Option (List Value)
  | [] => some []
  | d :: ds => match flatD d, flatDs ds with
    | some a, some b => some (a ++ b)
    | _, _ => none
end
def eqV : Value → Value → Bool
  | .int k a, .int k' b => k == k' && a == b
  | .bool a, .bool b => a == b
  | _, _ => false
def eqVs : List Value → List Value → Bool
  | [], [] => true
  | x :: a, y :: b => eqV x y && eqVs a b
  | _, _ => false
def eqPre (P : Program) (t : TypeId) (a b : List Value) : Prop := (∃ fs, P.underlying t = some (.struct fs)) ∧ (a.length = P.cellsOf t ∧ b.length = P.cellsOf t) ∧ P.keyTypeAt 6 t = true ∧ P.eqGuardType P.depth t = false ∧
  ∃ la lb, P.keyLits 6 t a = some la ∧ P.keyLits 6 t b = some lb ∧ (la = lb ↔ eqVs a b = true)
def binA (P : Program) (op : BinOp) (t : TypeId) : X → X → Out
  | .dat (.lit (.int k x)), .dat (.lit (.int k' y)) => match op with
    | .shl => intOp .shl k x y
    | .shr => intOp .shr k x y
    | _ => if k = k' then intOp op k x y else .bad
  | .dat (.lit (.string x)), .dat (.lit (.string y)) => strOp op x y
  | .dat (.lit (.float k x)), .dat (.lit (.float k' y)) => if k = k' then floatOp op k x y else .bad
  | .dat (.lit (.bool x)), .dat (.lit (.bool y)) => match op with
    | .eql => ⟨P.underlying t = some .bool, .dat (.lit (.bool (x == y))), []⟩
    | .neq => ⟨P.underlying t = some .bool, .dat (.lit (.bool (!(x == y)))), []⟩
    | _ => .bad
  | .dat (.ptr _), .dat (.lit (.pointer none)) => match op, P.underlying t with
    | .eql, some (.pointer _) => .lit (.bool false)
    | .neq, some (.pointer _) => .lit (.bool true)
    | _, _ => .bad
  | .dat (.lit (.pointer none)), .dat (.lit (.pointer none)) => match op, P.underlying t with
    | .eql, some (.pointer _) => .lit (.bool true)
    | .neq, some (.pointer _) => .lit (.bool false)
    | _, _ => .bad
  | .dat (.agg xs), .dat (.agg ys) => match flatDs xs, flatDs ys with
    | some a, some b => match op with
      | .eql => ⟨eqPre P t a b, .dat (.lit (.bool (eqVs a b))), []⟩
      | .neq => ⟨eqPre P t a b, .dat (.lit (.bool (!eqVs a b))), []⟩
      | _ => .bad
    | _, _ => .bad
  | _, _ => .bad
def unA (op : UnOp) : X → Out
  | .dat (.lit (.int k x)) => match op with
    | .neg => .lit (.int k (k.wrap (0 - x)))
    | .xor => .lit (.int k (k.wrap (BitVec.ofInt k.bits (if k.signed then -1 else k.max) ^^^ BitVec.ofInt k.bits x).toNat))
    | _ => .bad
  | .dat (.lit (.bool b)) => match op with
    | .not => .lit (.bool (!b))
    | _ => .bad
  | .dat (.lit (.float k x)) => match op with
    | .neg => .lit (.float k (Op.negFloat k x))
    | _ => .bad
  | _ => .bad
def pickA : X → X → X → Out
  | .dat (.lit (.bool c)), x, y => match x, y with
    | .dat (.lit (.bool a)), .dat (.lit (.bool b)) => .lit (.bool (if c then a else b))
    | _, _ => ⟨True, if c then x else y, []⟩
  | _, _, _ => .bad
def isAggT (P : Program) (t : TypeId) : Bool := match P.underlying t with
  | some (.struct _) => true
  | some (.array _ _) => true
  | _ => false
def datas : List X → Option (List D)
  | [] => some []
  | .dat d :: xs => match datas xs with
    | some ds => some (d :: ds)
    | none => none
  | _ :: _ => none
def partsOk (P : Program) : List Field → List D → Nat → Prop
  | [], [], _ => True
  | f :: fs, d :: ds, off => f.offset = off ∧ P.cellsOf f.type = d.size ∧ partsOk P fs ds (off + d.size)
  | _, _, _ => False
def resX : List D → X
  | [d] => .dat d
  | ds => .tup (ds.map .dat)
def Rv.to (ids : List Nat) : Rv → Rv
  | .dat d => .dat d
  | .ref i => match ids[i]? with
    | some o => .ref o
    | none => .dat (.lit undef)
def Rv.x : Rv → X
  | .dat d => .dat d
  | .ref o => .obj o [] 0
def resM (ids : List Nat) : List Rv → X
  | [r] => (r.to ids).x
  | rs => .tup (rs.map (Rv.to ids))
def asData (st : St) : X → Option (D × Option Nat)
  | .dat d => some (d, none)
  | .obj o [] 0 => match st.box? o with
    | some d => some (.ptr d, some o)
    | none => none
  | .row o => match st.row? o with
    | some (sz, _, xs) => some (.sl sz xs, some o)
    | none => none
  | .win o lo n => match st.row? o with
    | some (sz, _, xs) => if lo + n ≤ xs.length then some (.sl sz ((xs.drop lo).take n), some o) else none
    | none => none
  | .arr o sz n => match st.box? o with
    | some (.agg ds) => if ds.length = n ∧ n ≤ maxLen ∧ (∀ d ∈ ds, d.size = sz) then some (.sl sz ds, some o) else none
    | _ => none
  | _ => none
def freeze (st : St) (o : Nat) : Option Ob := match st.obj o with
  | some (.box d) => some (.fbox d)
  | some (.row sz e xs) => some (.frow sz e xs)
  | x => x
def freezes (st : St) (l : List Nat) : List (Nat × Option Ob) := l.map fun o => (o, freeze st o)
def asDatas (st : St) : List X → Option (List (D × Option Nat))
  | [] => some []
  | x :: xs => match asData st x, asDatas st xs with
    | some p, some ps => some (p :: ps)
    | _, _ => none
def refIds : List X → List Bool → List Nat
  | .obj o [] 0 :: xs, true :: md => o :: refIds xs md
  | _ :: xs, _ :: md => refIds xs md
  | _, _ => []
def asArs (st : St) (ids : List Nat) : List X → Option (List (Ar × Option Nat))
  | [] => some []
  | x :: xs => match asArs st ids xs with
    | none => none
    | some ps => match x with
      | .obj o [] 0 => if o ∈ ids then some ((.ref (ids.idxOf o), none) :: ps) else match st.box? o with
        | some d => some ((.dat (.ptr d), some o) :: ps)
        | none => none
      | .dat d => some ((.dat d, none) :: ps)
      | .row o => match st.row? o with
        | some (sz, _, l) => some ((.dat (.sl sz l), some o) :: ps)
        | none => none
      | .win o lo n => match st.row? o with
        | some (sz, _, l) => if lo + n ≤ l.length then some ((.dat (.sl sz ((l.drop lo).take n)), some o) :: ps) else none
        | none => none
      | _ => none
def boxesOf (st : St) : List Nat → Option (List D)
  | [] => some []
  | o :: os => match st.wbox? o, boxesOf st os with
    | some d, some ds => some (d :: ds)
    | _, _ => none
def owners {α : Type} : List (α × Option Nat) → List Nat
  | [] => []
  | (_, some o) :: r => o :: owners r
  | (_, none) :: r => owners r
def allFreeze (st : St) : List Nat → Prop
  | [] => True
  | o :: r => st.mayFreeze o ∧ allFreeze st r
def setBoxes (st : St) : List Nat → List D → List (Nat × Option Ob)
  | o :: os, d :: ds => (o, setBox (st.obj o) d) :: setBoxes st os ds
  | _, _ => []
def D.isLit : D → Bool
  | .lit _ => true
  | _ => false
def St.wrow? (st : St) (o : Nat) : Option (Nat × TypeId × List D) := match st.obj o with
  | some (.row sz e xs) => some (sz, e, xs)
  | some (.prow sz e cp xs) => some (sz, e, xs)
  | _ => none
def setRow : Option Ob → List D → Option Ob
  | some (.prow sz e cp _), l => some (.prow sz e cp l)
  | some (.row sz e _), l => some (.row sz e l)
  | x, _ => x
def winOf (st : St) : X → Option (Nat × Nat × Nat)
  | .row o => match st.wrow? o with
    | some (_, _, l) => some (o, 0, l.length)
    | none => none
  | .win o lo n => match st.wrow? o with
    | some _ => some (o, lo, n)
    | none => none
  | _ => none
def resW (o : Nat) : Option Wr → X
  | none => .tup []
  | some (.dat d) => .dat d
  | some (.win lo n) => .win o lo n
def callC (b : Bool) (st : St) (g : List D → Prop × List D) (xs : List X) : Out := match b with
    | false => match datas xs with
      | some ds => ⟨(g ds).1, resX (g ds).2, []⟩
      | none => .bad
    | true => match asDatas st xs with
      | some ps => match (g (ps.map (·.1))).2.all D.isLit with
        | true => ⟨(g (ps.map (·.1))).1, resX (g (ps.map (·.1))).2, []⟩
        | false => ⟨(g (ps.map (·.1))).1 ∧ allFreeze st (owners ps), resX (g (ps.map (·.1))).2, freezes st (owners ps)⟩
      | none => .bad
def callW (st : St) (sz : Nat) (e : TypeId) (g : List D → Nat → Nat → List D → Prop × Option Wr × List D) (o lo n : Nat) (ps : List (D × Option Nat)) : Out := match st.wrow? o with
    | some (sz', e', l) => ⟨(g l lo n (ps.map (·.1))).1 ∧ sz' = sz ∧ e' = e ∧ 0 < l.length ∧ lo + n ≤ l.length ∧ (0 < n ∨ lo = 0) ∧ (g l lo n (ps.map (·.1))).2.2.length = l.length ∧ o ∉ owners ps ∧ allFreeze st (owners ps),
        resW o (g l lo n (ps.map (·.1))).2.1, freezes st (owners ps) ++ [(o, setRow (st.obj o) (g l lo n (ps.map (·.1))).2.2)]⟩
    | none => .bad
def callO (st : St) (sz : Nat) (e : TypeId) (g : List D → Prop × List D) (d : Option Nat) (xs : List X) : Out := match d, asDatas st xs with
    | some s, some ps => ⟨(g (ps.map (·.1))).1 ∧ allFreeze st (owners ps) ∧ st.obj s = none ∧ s < st.ob.length, .row s, freezes st (owners ps) ++ [(s, some (.row sz e (g (ps.map (·.1))).2))]⟩
    | _, _ => .bad
def callB (st : St) (g : List D → Prop × D) (d : Option Nat) (xs : List X) : Out := match d, asDatas st xs with
    | some s, some ps => ⟨(g (ps.map (·.1))).1 ∧ allFreeze st (owners ps) ∧ st.obj s = none ∧ s < st.ob.length, .obj s [] 0, freezes st (owners ps) ++ [(s, some (.box (g (ps.map (·.1))).2))]⟩
    | _, _ => .bad
def valD : Value → D
  | .agg cs => .agg (cs.toList.map .lit)
  | v => .lit v
def flatV : Value → Bool
  | .agg cs => cs.toList.all Value.oneCell'
  | v => v.oneCell'
def litsOf : List D → Option (List Value)
  | [] => some []
  | .lit v :: ds => match litsOf ds with
    | some vs => some (v :: vs)
    | none => none
  | _ :: _ => none
def dValue : D → Option Value
  | .lit v => some v
  | .agg ds => match litsOf ds with
    | some vs => some (.agg vs.toArray)
    | none => none
  | _ => none
def keysOk (q : IntKind) (n : Int) : List Value → Prop
  | [] => True
  | .tuple ⟨[.int q' x, _]⟩ :: r => q' = q ∧ (Lit.int q' x).wf = true ∧ x ≠ n ∧ keysOk q n r
  | _ :: _ => False
def keyIs (P : Program) (t : TypeId) (q : IntKind) : Prop := match P.underlying t with
  | some (.map k _) => P.underlying k = some (.int q)
  | _ => False
def insA (P : Program) (st : St) (t : TypeId) (m k v : X) : Out := match m, k, v with
  | .mpx o, .dat (.lit (.int q n)), .dat d => match st.mp? o, dValue d with
    | some (t', ks), some u => ⟨(t' = t ∧ mapT t = true) ∧ keyIs P t q ∧ (Lit.int q n).wf = true ∧ keysOk q n ks, .und, [(o, some (.mp t (ks ++ [.tuple #[.int q n, u]])))]⟩
    | _, _ => .bad
  | _, _, _ => .bad
def rangeA (P : Program) (st : St) (t : TypeId) (x : X) (d : Nat) : Out := match x with
  | .mpx o => match st.mp? o with
    | some (t', ks) => ⟨(∃ q, keyIs P t q) ∧ (t' = t ∧ mapT t = true) ∧ o ≠ d ∧ st.obj d = none ∧ d < st.ob.length, .mpx d, [(o, none), (d, some (.mp itK (.bool false :: ks)))]⟩
    | none => .bad
  | .dat (.lit (.string s)) => ⟨P.underlying t = some .string ∧ st.obj d = none ∧ d < st.ob.length, .mpx d, [(d, some (.mp itS [.string s, .int .i64 0]))]⟩
  | _ => .bad
def entryA (st : St) (x : X) : Out := match x with
  | .mpx o => match st.mp? o with
    | some (t, .tuple ⟨[k, v]⟩ :: _) => ⟨t = itK ∧ flatV k = true ∧ flatV v = true, .tup [.dat (valD k), .dat (valD v)], []⟩
    | _ => .bad
  | _ => .bad
def nextA (st : St) (x : X) : Out := match x with
  | .mpx o => match st.mp? o with
    | some (t, [.string s, .int .i64 p]) => match decide (p.toNat < s.size) with
      | true => ⟨t = itS ∧ 0 ≤ p, .tup [.dat (.lit (.bool true)), .dat (.lit (.int .i64 p)), .dat (.lit (.int .i32 (Utf8.decode s p.toNat).1))], [(o, some (.mp itS [.string s, .int .i64 (p + (Utf8.decode s p.toNat).2)]))]⟩
      | false => ⟨t = itS ∧ 0 ≤ p, .tup [.dat (.lit (.bool false))], []⟩
    | _ => .bad
  | _ => .bad
def callMp (st : St) (t : TypeId) (g : List Value → List D → Prop × List D × List Value) (xs : List X) : Out := match xs with
  | .mpx o :: r => match st.mp? o, datas r with
    | some (t', ks), some ds => ⟨(t' = t ∧ mapT t = true) ∧ (g ks ds).1 ∧ (g ks ds).2.1.all D.isLit = true, resX (g ks ds).2.1, [(o, some (.mp t (g ks ds).2.2))]⟩
    | _, _ => .bad
  | _ => .bad
def callA (mf : FuncId → Bool) (tb : FuncId → Option Ct) (st : St) (dst : Option Nat) (f : FuncId) (xs : List X) : Out := match tb f with
  | some (.data g) => callC (mf f) st g xs
  | some (.win sz e g gd) => match mf f, xs with
    | true, x :: r => match winOf st x with
      | some (o, lo, n) => match asDatas st r with
        | some ps => callW st sz e g o lo n ps
        | none => .bad
      | none => callC true st gd (x :: r)
    | true, [] => .bad
    | false, xs => callC false st gd xs
  | some (.own sz e g) => match mf f with
    | true => callO st sz e g dst xs
    | false => .bad
  | some (.ownb g) => match mf f with
    | true => callB st g dst xs
    | false => .bad
  | some (.mp t g) => match mf f with
    | true => callMp st t g xs
    | false => .bad
  | some (.mut md g) => match mf f with
    | false => .bad
    | true => match asArs st (refIds xs md) xs, boxesOf st (refIds xs md) with
      | some ps, some ds => ⟨(g (ps.map (·.1)) ds).1 ∧ (refIds xs md).Nodup ∧ (g (ps.map (·.1)) ds).2.2.length = ds.length ∧ allFreeze st (owners ps),
          resM (refIds xs md) (g (ps.map (·.1)) ds).2.1, freezes st (owners ps) ++ setBoxes st (refIds xs md) (g (ps.map (·.1)) ds).2.2⟩
      | _, _ => .bad
  | none => .bad
def regs (g : TypeId → List Value → D) (P : Program) : List Field → List Value → List D
  | [], _ => []
  | f :: fs, cs => (match isAggT P f.type with
    | true => g f.type (cs.take (P.cellsOf f.type))
    | false => .lit (cs.headD undef)) :: regs g P fs (cs.drop (P.cellsOf f.type))
def rega (g : List Value → D) (ag : Bool) (c : Nat) : Nat → List Value → List D
  | 0, _ => []
  | n + 1, cs => (match ag with
    | true => g (cs.take c)
    | false => .lit (cs.headD undef)) :: rega g ag c n (cs.drop c)
def regroup (P : Program) : Nat → TypeId → List Value → D
  | 0, _, cs => .agg (cs.map .lit)
  | k + 1, t, cs => match P.underlying t with
    | some (.struct fs) => .agg (regs (regroup P k) P fs.toList cs)
    | some (.array n e) => .agg (rega (regroup P k e) (isAggT P e) (P.cellsOf e) n cs)
    | _ => .agg (cs.map .lit)
def litD (P : Program) (t : TypeId) : Value → D
  | .agg cs => regroup P 4 t cs.toList
  | v => .lit v
def litOk (P : Program) (t : TypeId) (v : Value) : Prop := (∀ c ∈ v.cells.toList, c.oneCell' = true) ∧ flatD (litD P t v) = some v.cells.toList
def elems (st : St) : X → Option (List D)
  | .dat (.sl _ ys) => some ys
  | .dat (.lit (.slice none 0 0)) => some []
  | .row ob => match st.row? ob with
    | some (_, _, ys) => some ys
    | none => none
  | .win ob lo n => match st.row? ob with
    | some (_, _, ys) => if lo + n ≤ ys.length then some ((ys.drop lo).take n) else none
    | none => none
  | _ => none
def onto (st : St) : X → Option (Nat × Nat × TypeId × List D)
  | .row ob => match st.obj ob with
    | some (.row sz e xs) => some (ob, sz, e, xs)
    | _ => none
  | .win ob 0 n => match st.obj ob with
    | some (.row sz e xs) => if n ≤ xs.length then some (ob, sz, e, xs.take n) else none
    | _ => none
  | _ => none
def arrEl (st : St) : X → Option (Nat × List D)
  | .arr o sz n => match asData st (.arr o sz n) with
    | some (.sl sz xs, _) => some (sz, xs)
    | _ => none
  | _ => none
def appendA (P : Program) (st : St) (dst : Option Nat) (t : TypeId) (s x : X) : Out := match P.underlying t, dst, elems st x with
  | some (.slice e), some k, some ys => match s with
    | .dat (.lit (.slice none 0 0)) => ⟨0 < P.cellsOf e ∧ (P.info? e).isSome ∧ (∃ z, (P.info? e).bind (·.zero) = some z ∧ z.cells.size = P.cellsOf e) ∧ (∀ y ∈ ys, y.size = P.cellsOf e) ∧ ys.length * P.bytesOf e ≤ 140737488355328 ∧ ys.length ≤ maxLen ∧ st.obj k = none ∧ k < st.ob.length,
        .row k, [(k, some (.row (P.cellsOf e) e ys))]⟩
    | s => match onto st s with
      | some (ob, sz, e', xs) => ⟨e' = e ∧ sz = P.cellsOf e ∧ 0 < sz ∧ (P.info? e).isSome ∧ (∃ z, (P.info? e).bind (·.zero) = some z ∧ z.cells.size = sz) ∧ (∀ y ∈ ys, y.size = sz) ∧ (xs.length + ys.length) * P.bytesOf e ≤ 140737488355328 ∧ xs.length + ys.length ≤ maxLen ∧ st.obj k = none ∧ k < st.ob.length,
          .row k, [(ob, none), (k, some (.row sz e (xs ++ ys)))]⟩
      | none => match arrEl st s with
        | some (sz, xs) => ⟨0 < ys.length ∧ sz = P.cellsOf e ∧ 0 < sz ∧ (P.info? e).isSome ∧ (∃ z, (P.info? e).bind (·.zero) = some z ∧ z.cells.size = sz) ∧ (∀ y ∈ ys, y.size = sz) ∧ (xs.length + ys.length) * P.bytesOf e ≤ 140737488355328 ∧ xs.length + ys.length ≤ maxLen ∧ st.obj k = none ∧ k < st.ob.length,
          .row k, [(k, some (.row sz e (xs ++ ys)))]⟩
        | none => .bad
  | _, _, _ => .bad
def loB : Option X → Option Int
  | none => some 0
  | some (.dat (.lit (.int _ l))) => some l
  | _ => none
def hiB (n : Nat) : Option X → Option Int
  | none => some n
  | some (.dat (.lit (.int _ h))) => some h
  | _ => none
def strSl (x : X) (l : Int) (hi : Option X) : Out := match x with
  | .dat (.lit (.string s)) => match hiB s.size hi with
    | some h => ⟨0 ≤ l ∧ l ≤ h ∧ h ≤ s.size, .dat (.lit (.string (s.extract l.toNat h.toNat))), []⟩
    | none => .bad
  | _ => .bad
def sliceA (P : Program) (st : St) (t : TypeId) (x : X) (lo hi : Option X) : Out := match P.underlying t, loB lo with
  | some (.slice e), some l => match x with
    | .dat (.sl sz xs) => match hiB xs.length hi with
      | some h => ⟨(0 ≤ l ∧ l ≤ h ∧ h ≤ xs.length) ∧ (P.info? e).isSome ∧ P.cellsOf e = sz, .dat (.sl sz ((xs.take h.toNat).drop l.toNat)), []⟩
      | none => .bad
    | .row ob => match st.row? ob with
      | some (sz, _, xs) => match hiB xs.length hi with
        | some h => ⟨(0 ≤ l ∧ l ≤ h ∧ h ≤ xs.length) ∧ (P.info? e).isSome ∧ P.cellsOf e = sz, .win ob l.toNat (h - l).toNat, []⟩
        | none => .bad
      | none => .bad
    | .win ob k n => match st.row? ob with
      | some (sz, _, xs) => match hiB n hi with
        | some h => ⟨(0 ≤ l ∧ l ≤ h ∧ h ≤ n) ∧ k + n ≤ xs.length ∧ (P.info? e).isSome ∧ P.cellsOf e = sz, .win ob (k + l.toNat) (h - l).toNat, []⟩
        | none => .bad
      | none => .bad
    | _ => .bad
  | some (.array m e), some l => match hi, x with
    | none, .obj o [] 0 => ⟨l = 0 ∧ (P.info? e).isSome, .arr o (P.cellsOf e) m, []⟩
    | _, _ => .bad
  | some .string, some l => strSl x l hi
  | _, _ => .bad
def zeros (P : Program) : List Field → List Value → List D
  | [], _ => []
  | f :: fs, zc => (match isAggT P f.type with
    | true => regroup P 4 f.type (zc.take (P.cellsOf f.type))
    | false => .lit (zc.headD undef)) :: zeros P fs (zc.drop (P.cellsOf f.type))
def putAll : List D → List Nat → List D → List D
  | zs, i :: is, d :: ds => putAll (zs.set i d) is ds
  | zs, _, _ => zs
def fits (zs : List D) : List Nat → List D → Prop
  | [], [] => True
  | i :: is, d :: ds => (∃ z, zs[i]? = some z ∧ d.size = z.size) ∧ fits zs is ds
  | _, _ => False
def buildA (P : Program) (t : TypeId) (ks : List Nat) (ds : List D) : Prop × D := match P.underlying t with
  | some (.struct fs) => if ks = List.range fs.size then
      (fs.size = ds.length ∧ partsOk P fs.toList ds 0 ∧ (∃ v, (P.info? t).bind (·.zero) = some v ∧ v.cells.size = D.sizes ds) ∧ ∀ f ∈ fs.toList, (P.info? f.type).isSome, .agg ds)
    else match (P.info? t).bind (·.zero) with
      | some (.agg zc) => (partsOk P fs.toList (zeros P fs.toList zc.toList) 0 ∧ flatDs (zeros P fs.toList zc.toList) = some zc.toList ∧ (∀ v ∈ zc.toList, v.oneCell' = true) ∧ (∀ f ∈ fs.toList, (P.info? f.type).isSome) ∧ fits (zeros P fs.toList zc.toList) ks ds,
          .agg (putAll (zeros P fs.toList zc.toList) ks ds))
      | _ => (False, .agg [])
  | some (.array m e) => (ks = List.range m ∧ m = ds.length ∧ (∀ d ∈ ds, d.size = P.cellsOf e) ∧ (∃ v, (P.info? t).bind (·.zero) = some v ∧ v.cells.size = D.sizes ds) ∧ (P.info? e).isSome, .agg ds)
  | _ => (False, .agg [])
def bld (t : TypeId) : Nat := 1000000 + t
def cel (t : Nat) : Nat := 2000000 + t
def rowb (t : TypeId) : Nat := 4000000 + t
def lateBad (mf : FuncId → Bool) (a : Operand) (x : X) : Bool := match a with
  | .tmp t => mf (cel t) && (match x with
    | .obj ob _ _ => ob != t
    | _ => true)
  | _ => false
def lateS (mf : FuncId → Bool) (a : Operand) : Bool := match a with
  | .tmp t => mf (cel t)
  | _ => false
def barIf (b : Bool) (r : Out) : Out := match b with
  | true => .bad
  | false => r
def fl (mf : FuncId → Bool) (x : X) : Bool := x.refs.any fun s => mf (cel s)
def appBad (mf : FuncId → Bool) (a : Operand) (x : X) : Bool := match a with
  | .tmp t => mf (cel t) && (match x with
    | .row ob => ob != t
    | _ => true)
  | _ => false
def lenA (st : St) : X → Out
  | .dat (.sl _ xs) => .lit (.int .i64 xs.length)
  | .dat (.lit (.slice _ n _)) => .lit (.int .i64 n)
  | .row ob => match st.row? ob with
    | some (_, _, xs) => .lit (.int .i64 xs.length)
    | none => .bad
  | .win ob _ n => match st.row? ob with
    | some _ => .lit (.int .i64 n)
    | none => .bad
  | _ => .bad
def strLen : X → Out
  | .dat (.lit (.string s)) => .lit (.int .i64 s.size)
  | _ => .bad
def mmA (hi : Bool) : X → X → Out
  | .dat (.lit (.int k x)), .dat (.lit (.int _ y)) => .lit (.int k (match hi with
    | true => if y > x then y else x
    | false => if y < x then y else x))
  | _, _ => .bad
def byteAt (s : ByteArray) (n : Int) : Int := ((s[n.toNat]?).getD 0).toNat
def strIdx (P : Program) : Option TypeDesc → X → X → Out
  | some .string, .dat (.lit (.string s)), .dat (.lit (.int _ n)) => ⟨0 ≤ n ∧ n < s.size, .dat (.lit (.int .u8 (byteAt s n))), []⟩
  | some (.array m e), .dat (.agg ds), .dat (.lit (.int _ n)) => match ds[n.toNat]? with
    | some d => ⟨(0 ≤ n ∧ n < m) ∧ P.cellsOf e = d.size ∧ isAggT P e = d.isAgg ∧ ((P.info? e).isSome ∧ (P.underlying e).isSome) ∧ n.toNat * P.cellsOf e = D.sizes (ds.take n.toNat), .dat d, []⟩
    | none => .bad
  | _, _, _ => .bad
def fnOf : X → Option FuncId
  | .dat (.lit (.func (.func f) ⟨[]⟩ ⟨[]⟩)) => some f
  | _ => none
def cloOf : X → Option (FuncId × List D)
  | .clo f ds => some (f, ds)
  | _ => none
def callF (b : Bool) (tb : FuncId → Option Ct) (st : St) (f : FuncId) (cs : List D) (xs : List X) : Out := match tb f with
  | some (.data g) => callC b st (fun l => g (l ++ cs)) xs
  | _ => .bad
def fnp : Nat := 3000000
def fnIs : Fn → Option FuncId
  | .func f => some f
  | _ => none
def makeA (st : St) (fn : Fn) (first : List Operand) (xs : List X) : Out := match fnIs fn, first, asDatas st xs with
  | some f, [], some ps => ⟨allFreeze st (owners ps), .clo f (ps.map (·.1)), freezes st (owners ps)⟩
  | _, _, _ => .bad
def buildO (P : Program) (st : St) (u : Option TypeDesc) (n : Nat) (ks : List Nat) (xs : List X) : Out := match u, asDatas st xs, ks with
  | some (.slice e), some ps, _ :: _ => ⟨(0 < n ∧ ks = List.range n ∧ (∀ d ∈ ps.map (·.1), d.size = P.cellsOf e) ∧ n * P.cellsOf e ≤ 16777216 ∧ (∃ z, (P.info? e).bind (·.zero) = some z) ∧ 0 < P.cellsOf e) ∧ allFreeze st (owners ps), .dat (.sl (P.cellsOf e) (ps.map (·.1))), freezes st (owners ps)⟩
  | _, _, _ => .bad
def strc : Nat := 5000000
def strA (P : Program) (st : St) (u v : Option TypeDesc) (x : X) : Out := match u, v with
  | some (.slice e), some .string => match P.underlying e, (elems st x).bind bytesDs with
    | some (.int .u8), some ns => .lit (.string (strOf ns))
    | _, _ => .bad
  | some _, some (.int k) => match x with
    | .dat (.lit (.int _ n)) => .lit (.int k (k.wrap n))
    | _ => .bad
  | _, _ => .bad
def callP (mf : FuncId → Bool) (tb : FuncId → Option Ct) (st : St) (dst : Option Nat) (f : FuncId) (xs : List X) : Out := match mf fnp with
  | true => callF false tb st f [] xs
  | false => callA mf tb st dst f xs
def aop (P : Program) (mf : FuncId → Bool) (tb : FuncId → Option Ct) (st : St) (o : Oper) : Out :=
  match o.op with
  | .move x => ⟨True, ev st x, []⟩
  | .assign x => ⟨True, ev st x, []⟩
  | .pick c a b => pickA (ev st c) (ev st a) (ev st b)
  | .binOp op t x y _ => binA P op t (ev st x) (ev st y)
  | .unOp op _ x => unA op (ev st x)
  | .convert src dst x => match mf strc with
   | true => barIf (fl mf (ev st x)) (strA P st (P.underlying src) (P.underlying dst) (ev st x))
   | false => match P.underlying src, P.underlying dst, ev st x with
    | some _, some (.int k), .dat (.lit (.int _ n)) => .lit (.int k (k.wrap n))
    | some _, some (.float k), .dat (.lit (.int _ n)) => .lit (.float k (floatOfInt k n))
    | some _, some (.float k), .dat (.lit (.float s b)) => ⟨s = k, .dat (.lit (.float k b)), []⟩
    | _, _, _ => .bad
  | .nilCheck x => match ev st x with
    | .obj ob p off => ⟨True, .obj ob p off, []⟩
    | .dat (.ptr d) => ⟨True, .dat (.ptr d), []⟩
    | _ => .bad
  | .box _ v => match ev st v, o.dst with
    | .dat d, some s => ⟨st.obj s = none ∧ s < st.ob.length, .obj s [] 0, [(s, some (.box d))]⟩
    | _, _ => .bad
  | .alloc t => match (P.info? t).bind (·.zero), o.dst with
    | some v, some s => ⟨(st.obj s = none ∧ s < st.ob.length) ∧ litOk P t v, .obj s [] 0, [(s, some (.box (litD P t v)))]⟩
    | _, _ => .bad
  | .fieldAddr s a i => match P.underlying s with
    | some (.struct fs) => match fs[i]? with
      | some f => match ev st a with
        | .obj ob p off => ⟨P.cellsOf f.type ≠ 0, .obj ob (p ++ [i]) (off + f.offset), []⟩
        | .elt ob j p off => ⟨P.cellsOf f.type ≠ 0, .elt ob j (p ++ [i]) (off + f.offset), []⟩
        | .dat (.ptr (.agg ds)) => match ds[i]? with
          | some d => ⟨P.cellsOf f.type ≠ 0 ∧ f.offset = D.sizes (ds.take i), .dat (.ptr d), []⟩
          | none => .bad
        | _ => .bad
      | none => .bad
    | _ => .bad
  | .load t a => barIf (fl mf (ev st a)) (match ev st a with
    | .obj ob p off => match st.box? ob with
        | some d => match nav d p with
          | some (e, off') => ⟨off' = off ∧ P.cellsOf t = e.size ∧ isAggT P t = e.isAgg ∧ (P.underlying t).isSome ∧ (P.info? t).isSome, .dat e, []⟩
          | none => .bad
        | none => .bad
    | .elt ob j p off => match st.row? ob with
      | some (sz, _, xs) => match xs[j]? with
        | some d => match nav d p with
          | some (e, off') => ⟨d.size = sz ∧ off' = off ∧ P.cellsOf t = e.size ∧ isAggT P t = e.isAgg ∧ (P.underlying t).isSome ∧ (P.info? t).isSome, .dat e, []⟩
          | none => .bad
        | none => .bad
      | none => .bad
    | .dat (.ptr d) => ⟨P.cellsOf t = d.size ∧ isAggT P t = d.isAgg ∧ (P.underlying t).isSome ∧ (P.info? t).isSome, .dat d, []⟩
    | _ => .bad)
  | .store t a v => barIf (lateBad mf a (ev st a)) (match ev st a, ev st v with
    | .obj ob p off, .dat x => match st.wbox? ob with
      | some d => match nav d p with
        | some (e, off') => ⟨off' = off ∧ x.size = e.size ∧ P.cellsOf t = x.size ∧ (P.info? t).isSome, .und, [(ob, setBox (st.obj ob) (upd d p x))]⟩
        | none => .bad
      | _ => .bad
    | .elt ob j p off, .dat x => match st.obj ob with
      | some (.row sz e xs) => match xs[j]? with
        | some d => match nav d p with
          | some (e', off') => ⟨d.size = sz ∧ off' = off ∧ x.size = e'.size ∧ P.cellsOf t = x.size ∧ (P.info? t).isSome, .und, [(ob, some (.row sz e (xs.set j (upd d p x))))]⟩
          | none => .bad
        | none => .bad
      | some (.prow sz e cp xs) => match xs[j]? with
        | some d => match nav d p with
          | some (e', off') => ⟨d.size = sz ∧ off' = off ∧ x.size = e'.size ∧ P.cellsOf t = x.size ∧ (P.info? t).isSome, .und, [(ob, some (.prow sz e cp (xs.set j (upd d p x))))]⟩
          | none => .bad
        | none => .bad
      | _ => .bad
    | _, _ => .bad)
  | .build t parts => match mf (bld t) with
    | false => match datas (parts.toList.map fun p => ev st p.2) with
      | some ds => ⟨(buildA P t (parts.toList.map (·.1)) ds).1, .dat (buildA P t (parts.toList.map (·.1)) ds).2, []⟩
      | none => .bad
    | true => match asDatas st (parts.toList.map fun p => ev st p.2) with
      | some ps => ⟨(buildA P t (parts.toList.map (·.1)) (ps.map (·.1))).1 ∧ allFreeze st (owners ps), .dat (buildA P t (parts.toList.map (·.1)) (ps.map (·.1))).2, freezes st (owners ps)⟩
      | none => .bad
  | .extract x i => match ev st x with
    | .tup rs => match rs[i]? with
      | some r => ⟨True, r.x, []⟩
      | none => .bad
    | _ => .bad
  | .indexAddr t x i => barIf (fl mf (ev st x)) (match P.underlying t, ev st i with
    | some (.slice e), .dat (.lit (.int _ n)) => match ev st x with
      | .dat (.sl sz xs) => match xs[n.toNat]? with
        | some d => ⟨0 ≤ n ∧ P.cellsOf e = sz ∧ (P.info? e).isSome, .dat (.ptr d), []⟩
        | none => .bad
      | .row ob => match st.row? ob with
        | some (sz, _, xs) => ⟨(0 ≤ n ∧ n < xs.length) ∧ P.cellsOf e = sz ∧ (P.info? e).isSome, .elt ob n.toNat [] 0, []⟩
        | none => .bad
      | .win ob lo m => match st.row? ob with
        | some (sz, _, xs) => ⟨(0 ≤ n ∧ n < m) ∧ lo + m ≤ xs.length ∧ P.cellsOf e = sz ∧ (P.info? e).isSome, .elt ob (lo + n.toNat) [] 0, []⟩
        | none => .bad
      | _ => .bad
    | some (.array m e), .dat (.lit (.int _ n)) => match ev st x with
      | .obj ob p off => ⟨(0 ≤ n ∧ n < m) ∧ (P.info? e).isSome, .obj ob (p ++ [n.toNat]) (off + n.toNat * P.cellsOf e), []⟩
      | .elt ob j p off => ⟨(0 ≤ n ∧ n < m) ∧ (P.info? e).isSome, .elt ob j (p ++ [n.toNat]) (off + n.toNat * P.cellsOf e), []⟩
      | .dat (.ptr (.agg ds)) => match ds[n.toNat]? with
        | some d => ⟨(0 ≤ n ∧ n < m) ∧ (P.info? e).isSome ∧ n.toNat * P.cellsOf e = D.sizes (ds.take n.toNat), .dat (.ptr d), []⟩
        | none => .bad
      | _ => .bad
    | _, _ => .bad)
  | .index t x i => strIdx P (P.underlying t) (ev st x) (ev st i)
  | .slice t x lo hi none => barIf (fl mf (ev st x)) (sliceA P st t (ev st x) (lo.map (ev st)) (hi.map (ev st)))
  | .makeSlice t l c => match o.dst with
    | some k => match P.underlying t, ev st l, ev st c with
      | some (.slice e), .dat (.lit (.int _ n)), .dat (.lit (.int _ m)) => match (P.info? e).bind (·.zero) with
        | some z => ⟨(0 ≤ n ∧ n ≤ m) ∧ P.bytesOf e * m ≤ 140737488355328 ∧ m ≤ 9223372036854775807 ∧ z.cells.size = P.cellsOf e ∧ 0 < P.cellsOf e ∧ litOk P e z ∧ st.obj k = none ∧ k < st.ob.length,
            .row k, [(k, some (.row (P.cellsOf e) e (List.replicate n.toNat (litD P e z))))]⟩
        | none => .bad
      | _, _, _ => .bad
    | none => .bad
  | .makeMap t none => match o.dst with
    | some k => ⟨st.obj k = none ∧ k < st.ob.length ∧ mapT t = true, .mpx k, [(k, some (.mp t []))]⟩
    | none => .bad
  | .insert t m k v => insA P st t (ev st m) (ev st k) (ev st v)
  | .range t x => match o.dst with
    | some d => rangeA P st t (ev st x) d
    | none => .bad
  | .entry x => entryA st (ev st x)
  | .next x true => nextA st (ev st x)
  | .makeFunc fn first captured => makeA st fn first.toList (captured.toList.map (ev st))
  | .buildSlice t n parts => match (mf (bld t) && n != 0) with
   | true => buildO P st (P.underlying t) n (parts.toList.map (·.1)) (parts.toList.map fun p => ev st p.2)
   | false => match o.dst with
    | some k => match P.underlying t, datas (parts.toList.map fun p => ev st p.2) with
      | some (.slice e), some ds => match parts.toList with
        | [] => ⟨n = 0 ∧ (P.info? e).isSome ∧ st.obj k = none ∧ k < st.ob.length, .row k, [(k, some (.row (P.cellsOf e) e []))]⟩
        | _ :: _ => match mf (rowb t) with
          | true => ⟨(0 < n ∧ parts.toList.map (·.1) = List.range n ∧ (∀ d ∈ ds, d.size = P.cellsOf e) ∧ n * P.cellsOf e ≤ 16777216 ∧ (∃ z, (P.info? e).bind (·.zero) = some z) ∧ 0 < P.cellsOf e) ∧ st.obj k = none ∧ k < st.ob.length, .row k, [(k, some (.row (P.cellsOf e) e ds))]⟩
          | false => ⟨0 < n ∧ parts.toList.map (·.1) = List.range n ∧ (∀ d ∈ ds, d.size = P.cellsOf e) ∧ n * P.cellsOf e ≤ 16777216 ∧ (∃ z, (P.info? e).bind (·.zero) = some z) ∧ 0 < P.cellsOf e, .dat (.sl (P.cellsOf e) ds), []⟩
      | _, _ => .bad
    | none => .bad
  | .call { callee := .builtin .append, args := args, argTypes := ts } => match ts.toList, args.toList with
    | [t, t'], [s, x] => if t = t' then barIf (appBad mf s (ev st s)) (appendA P st o.dst t (ev st s) (ev st x)) else .bad
    | _, _ => .bad
  | .call { callee := .value (.func f), args := args, .. } => callA mf tb st o.dst f (args.toList.map (ev st))
  | .call { callee := .value (.tmp t), args := args, .. } => match cloOf (ev st (.tmp t)) with
    | some (f, cs) => callF (!mf fnp) tb st f cs (args.toList.map (ev st))
    | none => match fnOf (ev st (.tmp t)) with
      | some f => callP mf tb st o.dst f (args.toList.map (ev st))
      | none => .bad
  | .call { callee := .builtin .len, args := args, argTypes := ts } => match (ts[0]?).bind P.underlying, args.toList with
    | some (.slice _), [x] => barIf (fl mf (ev st x)) (lenA st (ev st x))
    | some .string, [x] => barIf (fl mf (ev st x)) (strLen (ev st x))
    | _, _ => .bad
  | .call { callee := .builtin .max, args := args, .. } => match args.toList with
    | [x, y] => mmA true (ev st x) (ev st y)
    | _ => .bad
  | .call { callee := .builtin .min, args := args, .. } => match args.toList with
    | [x, y] => mmA false (ev st x) (ev st y)
    | _ => .bad
  | _ => .bad
def St.ups (ob : List (Option Ob)) (up : List (Nat × Option Ob)) : List (Option Ob) := up.foldl (fun ob p => ob.set p.1 p.2) ob
def St.apply (st : St) (dst : Option Nat) (r : Out) : St := { (st.put dst r.x) with ob := St.ups st.ob r.up }
def blkOf : Value → Option Nat
  | .pointer (some a) => some a.block
  | .slice (some a) _ _ => some a.block
  | .map (some b) => some b
  | _ => none
def Fr (F0 : Nat → Prop) (w0 : World) (hv : Nat → Value) (st : St) (w : World) (k : Nat) : Prop :=
  F0 k ∨ (w0.heap.size ≤ k ∧ k < w.heap.size ∧ ∀ o ob, st.obj o = some ob → ob.live = true → blkOf (hv o) ≠ some k)
def RepVs (N : NR) (F : Nat → Prop) (w : World) (ds : List D) (vs : List Value) : Prop := ds.length = vs.length ∧ ∀ (i : Nat) (d : D) (v : Value), ds[i]? = some d → vs[i]? = some v → RepV N F w d v
def ObR (N : NR) (F : Nat → Prop) (w : World) : Ob → Value → Prop
  | .pbox d, v => ∃ b cs t, v = .pointer (some ⟨b, 0, none⟩) ∧ w.heap[b]? = some (.cells cs t (0, 0)) ∧ Rep N F w d cs.toList
  | .box d, v => ∃ b cs t, v = .pointer (some ⟨b, 0, none⟩) ∧ w.heap[b]? = some (.cells cs t (0, 0)) ∧ Rep N F w d cs.toList
  | .fbox d, v => ∃ b cs t, v = .pointer (some ⟨b, 0, none⟩) ∧ w.heap[b]? = some (.cells cs t (0, 0)) ∧ Rep N F w d cs.toList
  | .row sz e xs, v => ∃ css : List (List Value), w.ownsRow 0 e sz v xs.length css.flatten ∧ css.length = xs.length ∧ ∀ (i : Nat) (d : D) (cs : List Value), xs[i]? = some d → css[i]? = some cs → cs.length = sz ∧ Rep N F w d cs
  | .prow sz e cp xs, v => ∃ css : List (List Value), (w.ownsRow 0 e sz v xs.length css.flatten ∧ ∃ b, v = .slice (some ⟨b, 0, none⟩) xs.length cp) ∧ css.length = xs.length ∧ ∀ (i : Nat) (d : D) (cs : List Value), xs[i]? = some d → css[i]? = some cs → cs.length = sz ∧ Rep N F w d cs
  | .mp t ks, v => ∃ b ob, blkOf v = some b ∧ w.heap[b]? = some ob ∧ MpR F w t ks v ob
  | .frow sz e xs, v => ∃ css : List (List Value), w.ownsRow 0 e sz v xs.length css.flatten ∧ css.length = xs.length ∧ ∀ (i : Nat) (d : D) (cs : List Value), xs[i]? = some d → css[i]? = some cs → cs.length = sz ∧ Rep N F w d cs
def RepRv (N : NR) (F : Nat → Prop) (hv : Nat → Value) (st : St) (w : World) : Rv → Value → Prop
  | .dat d, v => RepV N F w d v
  | .ref o, v => ∃ b, v = .pointer (some ⟨b, 0, none⟩) ∧ ((∃ d, st.box? o = some d) → v = hv o)
def RepX (N : NR) (F : Nat → Prop) (hv : Nat → Value) (st : St) (w : World) : X → Value → Prop
  | .any, _ => True
  | .und, v => v = undef
  | .dat d, v => RepV N F w d v
  | .tup rs, v => ∃ vs, v = .tuple vs ∧ rs.length = vs.size ∧ ∀ (i : Nat) (r : Rv) (u : Value), rs[i]? = some r → vs[i]? = some u → RepRv N F hv st w r u
  | .obj o p off, v => ∃ b, v = .pointer (some ⟨b, off, none⟩) ∧ ((∃ d, st.box? o = some d) → hv o = .pointer (some ⟨b, 0, none⟩))
  | .row o, v => (∃ r, st.row? o = some r) → v = hv o
  | .elt o i p off, v => ∃ b k, v = .pointer (some ⟨b, k + off, none⟩) ∧ ∀ sz e xs, st.row? o = some (sz, e, xs) → k = i * sz ∧ ∃ n c, hv o = .slice (some ⟨b, 0, none⟩) n c
  | .win o lo n, v => ∀ sz e xs, st.row? o = some (sz, e, xs) → ∃ A N c A', hv o = .slice A N c ∧ v = .slice A' n (c - lo) ∧ (0 < n ∨ lo = 0 → A' = A.map (·.add (lo * sz)))
  | .arr o sz n, v => ∃ b, v = .slice (some ⟨b, 0, none⟩) n n ∧ ((∃ d, st.box? o = some d) → hv o = .pointer (some ⟨b, 0, none⟩))
  | .mpx o, v => (∃ I, st.mp? o = some I) → v = hv o
  | .clo f ds, v => ∃ vs, v = .func (.func f) #[] vs ∧ RepVs N F w ds vs.toList
structure Frame0 (M0 : Nat → Prop) (w0 w : World) : Prop where
  os : w.os = w0.os
  tape : w.tape = w0.tape
  output : w.output = w0.output
  size : w0.heap.size ≤ w.heap.size
  block : ∀ k, k < w0.heap.size → ¬ M0 k → w.heap[k]? = w0.heap[k]?
def Mb (M0 : Nat → Nat → Prop) (k : Nat) : Prop := ∃ o, M0 o k
structure Rel (N : NR) (F0 : Nat → Prop) (M0 : Nat → Nat → Prop) (w0 : World) (hv : Nat → Value) (st : St) (a : Act) (w : World) : Prop where
  lt0 : ∀ k, F0 k → k < w0.heap.size ∧ ¬ Mb M0 k
  ltM : ∀ k, Mb M0 k → k < w0.heap.size
  bel : Frame0 (Mb M0) w0 w
  tm : ∀ t, RepX N (Fr F0 w0 hv st w) hv st w (st.get t) (a.tmps.getD t undef)
  sz : st.tm.length = a.tmps.size
  ob : ∀ o ob, st.obj o = some ob → ObR N (Fr F0 w0 hv st w) w ob (hv o)
  own : ∀ o ob b, st.obj o = some ob → blkOf (hv o) = some b → match ob with
    | .pbox _ => M0 o b
    | .prow _ _ _ _ => M0 o b
    | _ => w0.heap.size ≤ b
  inj : ∀ o o' ob ob' b, st.obj o = some ob → st.obj o' = some ob' → blkOf (hv o) = some b → blkOf (hv o') = some b → o = o'
  df : a.defers = [] ∧ N.ok F0 w0
end Go.Proofs.Ytpggfnggffedlaa.Ae

namespace Go.Proofs.Ytpggfnggffedlaa.Ae
open Go Go.RowKit
variable {N : NR} {F0 : Nat → Prop} {M0 : Nat → Nat → Prop} {w0 : World} {hv : Nat → Value} {st : St} {a : Act} {w : World}
theorem RepVs.mono {F F' : Nat → Prop} {w w' : World} {ds : List D} {vs : List Value} (hF : ∀ b, F b → F' b ∧ w'.heap[b]? = w.heap[b]?) (h : RepVs N F w ds vs) : RepVs N F' w' ds vs :=
  ⟨h.1, fun i d v h1 h2 => (h.2 i d v h1 h2).mono hF⟩
structure Same (st st' : St) (hv hv' : Nat → Value) (o : Nat) : Prop where
  v : (∃ d, st'.box? o = some d) ∨ (∃ r, st'.row? o = some r) → hv' o = hv o
  box : (∃ d, st'.box? o = some d) → ∃ d, st.box? o = some d
  row : ∀ sz e xs, st'.row? o = some (sz, e, xs) → ∃ xs', st.row? o = some (sz, e, xs')
  mv : (∃ I, st'.mp? o = some I) → hv' o = hv o
  mp : (∃ I, st'.mp? o = some I) → ∃ I, st.mp? o = some I
theorem RepRv.mono {F F' : Nat → Prop} {hv hv' : Nat → Value} {st st' : St} {w w' : World} {r : Rv} {v : Value} (hF : ∀ b, F b → F' b ∧ w'.heap[b]? = w.heap[b]?) (ho : ∀ o ∈ r.refs, Same st st' hv hv' o) (h : RepRv N F hv st w r v) : RepRv N F' hv' st' w' r v := by
  cases r with
  | dat d => exact RepV.mono hF h
  | ref o =>
    have ho := ho o (by simp [Rv.refs])
    obtain ⟨b, h1, h2⟩ := h
    refine ⟨b, h1, fun hd => ?_⟩
    rw [ho.v (.inl hd)]
    exact h2 (ho.box hd)
theorem RepX.mono {F F' : Nat → Prop} {hv hv' : Nat → Value} {st st' : St} {w w' : World} {x : X} {v : Value} (hF : ∀ b, F b → F' b ∧ w'.heap[b]? = w.heap[b]?) (ho : ∀ o ∈ x.refs, Same st st' hv hv' o)
    (h : RepX N F hv st w x v) : RepX N F' hv' st' w' x v := by
  cases x with
  | any => trivial
  | und => exact h
  | dat d => exact RepV.mono hF h
  | tup rs =>
    obtain ⟨vs, e, hl, h⟩ := h
    exact ⟨vs, e, hl, fun i r u h1 h2 => (h i r u h1 h2).mono hF (fun o hr => ho o (List.mem_flatMap.2 ⟨r, List.mem_of_getElem? h1, hr⟩))⟩
  | obj o p off =>
    have ho := ho o (by simp [X.refs])
    obtain ⟨b, h1, h2⟩ := h
    refine ⟨b, h1, fun hd => ?_⟩
    rw [ho.v (.inl hd)]
    exact h2 (ho.box hd)
  | row o =>
    have ho := ho o (by simp [X.refs])
    rintro ⟨⟨sz, e, xs⟩, hr⟩
    rw [ho.v (.inr ⟨_, hr⟩)]
    obtain ⟨xs', h'⟩ := ho.row sz e xs hr
    exact h ⟨_, h'⟩
  | elt o i p off =>
    have ho := ho o (by simp [X.refs])
    obtain ⟨b, k, h1, h2⟩ := h
    refine ⟨b, k, h1, fun sz e xs hr => ?_⟩
    rw [ho.v (.inr ⟨_, hr⟩)]
    obtain ⟨xs', h'⟩ := ho.row sz e xs hr
    exact h2 sz e xs' h'
  | win o lo n =>
    have ho := ho o (by simp [X.refs])
    intro sz e xs hr
    rw [ho.v (.inr ⟨_, hr⟩)]
    obtain ⟨xs', h'⟩ := ho.row sz e xs hr
    exact h sz e xs' h'
  | arr o sz n =>
    have ho := ho o (by simp [X.refs])
    obtain ⟨b, h1, h2⟩ := h
    refine ⟨b, h1, fun hd => ?_⟩
    rw [ho.v (.inl hd)]
    exact h2 (ho.box hd)
  | clo f ds =>
    obtain ⟨vs, e, h⟩ := h
    exact ⟨vs, e, h.mono hF⟩
  | mpx o =>
    have ho := ho o (by simp [X.refs])
    intro hI
    rw [ho.mv hI]
    exact h (ho.mp hI)
theorem put_get (st : St) (dst : Option Nat) (x : X) (t : Nat) : (st.put dst x).get t = if dst = some t ∧ t < st.tm.length then x else st.get t := by
  cases dst with
  | none => simp [St.put]
  | some s =>
    simp only [St.put, St.get, List.getD_eq_getElem?_getD, List.getElem?_set]
    by_cases h : s = t
    · subst h
      by_cases h2 : s < st.tm.length
      · simp [h2]
      · simp [h2, List.getElem?_eq_none (Nat.le_of_not_lt h2)]
    · have : ¬ (some s = some t) := fun e => h (by simpa using e)
      simp [h, this]
theorem put_len (st : St) (dst : Option Nat) (x : X) : (st.put dst x).tm.length = st.tm.length := by cases dst <;> simp [St.put]
theorem put_obj (st : St) (dst : Option Nat) (x : X) (o : Nat) : (st.put dst x).obj o = st.obj o := by cases dst <;> rfl
theorem act_get (a : Act) (dst : Option Tmp) (v : Value) (t : Nat) : (a.put dst v).tmps.getD t undef = if dst = some t ∧ t < a.tmps.size then v else a.tmps.getD t undef := by
  cases dst with
  | none => simp [Act.put]
  | some s =>
    simp only [Act.put, Array.getD_eq_getD_getElem?, Array.getElem?_setIfInBounds]
    by_cases h : s = t
    · subst h
      by_cases h2 : s < a.tmps.size
      · simp [h2]
      · simp [h2, Array.getElem?_eq_none (Nat.le_of_not_lt h2)]
    · have : ¬ (some s = some t) := fun e => h (by simpa using e)
      simp [h, this]
theorem act_size (a : Act) (dst : Option Tmp) (v : Value) : (a.put dst v).tmps.size = a.tmps.size := by cases dst <;> simp [Act.put]
theorem act_defers (a : Act) (dst : Option Tmp) (v : Value) : (a.put dst v).defers = a.defers := by cases dst <;> rfl
theorem Frame0.refl (M0 : Nat → Prop) (w : World) : Frame0 M0 w w := ⟨rfl, rfl, rfl, Nat.le_refl _, fun _ _ _ => rfl⟩
theorem Frame0.trans {M0 M1 : Nat → Prop} {w0 w w' : World} (h : Frame0 M0 w0 w) (k : Frame0 M1 w w') (hM : ∀ b, M1 b → b < w0.heap.size → M0 b) : Frame0 M0 w0 w' :=
  ⟨k.os.trans h.os, k.tape.trans h.tape, k.output.trans h.output, Nat.le_trans h.size k.size, fun b hb hn => (k.block b (Nat.lt_of_lt_of_le hb h.size) (fun hm => hn (hM b hm hb))).trans (h.block b hb hn)⟩
theorem Rel.step {st' : St} {hv' : Nat → Value} {M1 : Nat → Prop} {w' : World} {dst : Option Nat} {x : X} {v : Value} (h : Rel N F0 M0 w0 hv st a w)
    (hst : st'.tm = (st.put dst x).tm) (hbel : Frame0 M1 w w') (hM : ∀ b, M1 b → b < w0.heap.size → Mb M0 b)
    (hF : ∀ b, Fr F0 w0 hv st w b → Fr F0 w0 hv' st' w' b ∧ w'.heap[b]? = w.heap[b]?)
    (ho : ∀ t o, o ∈ (st.get t).refs → Same st st' hv hv' o)
    (hob : ∀ o ob, st'.obj o = some ob → ObR N (Fr F0 w0 hv' st' w') w' ob (hv' o))
    (hown : ∀ o ob b, st'.obj o = some ob → blkOf (hv' o) = some b → match ob with | .pbox _ => M0 o b | .prow _ _ _ _ => M0 o b | _ => w0.heap.size ≤ b)
    (hinj : ∀ o o' ob ob' b, st'.obj o = some ob → st'.obj o' = some ob' → blkOf (hv' o) = some b → blkOf (hv' o') = some b → o = o')
    (hx : RepX N (Fr F0 w0 hv' st' w') hv' st' w' x v) : Rel N F0 M0 w0 hv' st' (a.put dst v) w' where
  lt0 := h.lt0
  ltM := h.ltM
  bel := h.bel.trans hbel hM
  tm := fun t => by
    have e : st'.get t = (st.put dst x).get t := by unfold St.get; rw [hst]
    rw [e, put_get, act_get, h.sz]
    by_cases hc : dst = some t ∧ t < a.tmps.size
    · rw [if_pos hc, if_pos hc]; exact hx
    · rw [if_neg hc, if_neg hc]; exact (h.tm t).mono hF (ho t)
  sz := by rw [hst, put_len, act_size]; exact h.sz
  ob := hob
  own := hown
  inj := hinj
  df := ⟨by rw [act_defers]; exact h.df.1, h.df.2⟩
theorem ownsRow_move {w w' : World} {base : Nat} {e : TypeId} {size n : Nat} {v : Value} {xs : List Value} (h : w.ownsRow base e size v n xs) (hm : ∀ k, blkOf v = some k → w'.heap[k]? = w.heap[k]?) : w'.ownsRow base e size v n xs := by
  obtain ⟨h1, h2⟩ := h
  refine ⟨h1, ?_⟩
  rcases h2 with h2 | ⟨g, cap, cur, rfl, hg, hh, r⟩
  · exact .inl h2
  · exact .inr ⟨g, cap, cur, rfl, hg, (hm g rfl).trans hh, r⟩
theorem ownsRow_lt {w : World} {base : Nat} {e : TypeId} {size n : Nat} {v : Value} {xs : List Value} (h : w.ownsRow base e size v n xs) (k : Nat) (hk : blkOf v = some k) : k < w.heap.size := by
  rcases h.2 with ⟨rfl, _⟩ | ⟨g, cap, cur, rfl, hg, hh, r⟩
  · cases hk
  · have hk : g = k := by simpa [blkOf] using hk
    subst hk
    exact (Array.getElem?_eq_some_iff.1 hh).1
theorem ObR.lt {F : Nat → Prop} {ob : Ob} {v : Value} (h : ObR N F w ob v) (k : Nat) (hk : blkOf v = some k) : k < w.heap.size := by
  have bx : (∃ b cs t, v = .pointer (some ⟨b, 0, none⟩) ∧ w.heap[b]? = some (.cells cs t (0, 0)) ∧ True) → k < w.heap.size := by
    rintro ⟨b, cs, t, rfl, hc, _⟩
    have hk : b = k := by simpa [blkOf] using hk
    subst hk
    exact (Array.getElem?_eq_some_iff.1 hc).1
  cases ob with
  | pbox d => obtain ⟨b, cs, t, e, hc, _⟩ := h; exact bx ⟨b, cs, t, e, hc, trivial⟩
  | box d => obtain ⟨b, cs, t, e, hc, _⟩ := h; exact bx ⟨b, cs, t, e, hc, trivial⟩
  | fbox d => obtain ⟨b, cs, t, e, hc, _⟩ := h; exact bx ⟨b, cs, t, e, hc, trivial⟩
  | row sz e xs => obtain ⟨css, h1, _⟩ := h; exact ownsRow_lt h1 k hk
  | frow sz e xs => obtain ⟨css, h1, _⟩ := h; exact ownsRow_lt h1 k hk
  | prow sz e cp xs => obtain ⟨css, h1, _⟩ := h; exact ownsRow_lt h1.1 k hk
  | mp t ks =>
    obtain ⟨b, ob, hv, hc, _⟩ := h
    rw [hv] at hk
    injection hk with hk
    subst hk
    exact (Array.getElem?_eq_some_iff.1 hc).1
theorem ObR.mono {F F' : Nat → Prop} {w w' : World} {ob : Ob} {v : Value} (h : ObR N F w ob v) (hF : ∀ b, F b → F' b ∧ w'.heap[b]? = w.heap[b]?) (hm : ∀ k, blkOf v = some k → w'.heap[k]? = w.heap[k]?) : ObR N F' w' ob v := by
  cases ob with
  | pbox d => obtain ⟨b, cs, t, rfl, hc, hr⟩ := h; exact ⟨b, cs, t, rfl, (hm b rfl).trans hc, hr.mono hF⟩
  | box d => obtain ⟨b, cs, t, rfl, hc, hr⟩ := h; exact ⟨b, cs, t, rfl, (hm b rfl).trans hc, hr.mono hF⟩
  | fbox d => obtain ⟨b, cs, t, rfl, hc, hr⟩ := h; exact ⟨b, cs, t, rfl, (hm b rfl).trans hc, hr.mono hF⟩
  | row sz e xs => obtain ⟨css, h1, h2, h3⟩ := h; exact ⟨css, ownsRow_move h1 hm, h2, fun i d cs g1 g2 => ⟨(h3 i d cs g1 g2).1, (h3 i d cs g1 g2).2.mono hF⟩⟩
  | prow sz e cp xs => obtain ⟨css, h1, h2, h3⟩ := h; exact ⟨css, ⟨ownsRow_move h1.1 hm, h1.2⟩, h2, fun i d cs g1 g2 => ⟨(h3 i d cs g1 g2).1, (h3 i d cs g1 g2).2.mono hF⟩⟩
  | frow sz e xs => obtain ⟨css, h1, h2, h3⟩ := h; exact ⟨css, ownsRow_move h1 hm, h2, fun i d cs g1 g2 => ⟨(h3 i d cs g1 g2).1, (h3 i d cs g1 g2).2.mono hF⟩⟩
  | mp t ks => obtain ⟨b, ob, hv, hc, hi⟩ := h; exact ⟨b, ob, hv, (hm b hv).trans hc, hi.mono hF⟩
theorem same_refl (st : St) (hv : Nat → Value) (o : Nat) : Same st st hv hv o := ⟨fun _ => rfl, fun h => h, fun sz e xs h => ⟨xs, h⟩, fun _ => rfl, fun h => h⟩
theorem same_put (st : St) (dst : Option Nat) (x : X) (hv : Nat → Value) (o : Nat) : Same st (st.put dst x) hv hv o := by
  have e1 : (st.put dst x).box? o = st.box? o := by unfold St.box?; rw [put_obj]
  have e2 : (st.put dst x).row? o = st.row? o := by unfold St.row?; rw [put_obj]
  have e3 : (st.put dst x).mp? o = st.mp? o := by unfold St.mp?; rw [put_obj]
  exact ⟨fun _ => rfl, fun h => by rwa [e1] at h, fun sz e xs h => ⟨xs, by rwa [e2] at h⟩, fun _ => rfl, fun h => by rwa [e3] at h⟩
theorem Fr_put (dst : Option Nat) (x : X) : Fr F0 w0 hv (st.put dst x) w = Fr F0 w0 hv st w := by
  funext k
  unfold Fr
  simp only [put_obj]
theorem Rel.grow {w' : World} {dst : Option Nat} {x : X} {v : Value} (h : Rel N F0 M0 w0 hv st a w) (hb : Frame0 (fun _ => False) w w')
    (hx : RepX N (Fr F0 w0 hv st w') hv st w' x v) : Rel N F0 M0 w0 hv (st.put dst x) (a.put dst v) w' := by
  have hsz := h.bel.size
  have hF : ∀ b, Fr F0 w0 hv st w b → Fr F0 w0 hv (st.put dst x) w' b ∧ w'.heap[b]? = w.heap[b]? := by
    rw [Fr_put]
    rintro b (hb0 | ⟨h1, h2, h3⟩)
    · exact ⟨.inl hb0, hb.block b (by have := (h.lt0 b hb0).1; omega) (fun h => h)⟩
    · exact ⟨.inr ⟨h1, by have := hb.size; omega, h3⟩, hb.block b h2 (fun h => h)⟩
  refine h.step rfl hb (fun _ h => h.elim) hF (fun _ o _ => same_put st dst x hv o) (fun o ob hd => ?_) (fun o ob b hd => ?_) (fun o o' ob ob' b h1 h2 => ?_) ?_
  · rw [put_obj] at hd
    have := h.ob o ob hd
    exact this.mono hF (fun k hk => hb.block k (this.lt k hk) (fun h => h))
  · rw [put_obj] at hd; exact h.own o ob b hd
  · rw [put_obj] at h1 h2; exact h.inj o o' ob ob' b h1 h2
  · rw [Fr_put]
    exact hx.mono (fun b hb => ⟨hb, rfl⟩) (fun o _ => same_put st dst x hv o)
theorem Rel.keep {dst : Option Nat} {x : X} {v : Value} (h : Rel N F0 M0 w0 hv st a w) (hx : RepX N (Fr F0 w0 hv st w) hv st w x v) : Rel N F0 M0 w0 hv (st.put dst x) (a.put dst v) w :=
  h.grow (Frame0.refl _ _) hx
theorem ups_nil (ob : List (Option Ob)) : St.ups ob [] = ob := rfl
theorem apply_nil (st : St) (dst : Option Nat) (p : Prop) (x : X) : st.apply dst ⟨p, x, []⟩ = st.put dst x := by
  unfold St.apply
  rw [ups_nil]
  cases dst <;> rfl
theorem set_obj (st : St) (tm : List X) (s : Nat) (c : Option Ob) (o : Nat) : St.obj ⟨tm, st.ob.set s c⟩ o = if o = s ∧ s < st.ob.length then c else st.obj o := by
  show (st.ob.set s c).getD o none = _
  rw [List.getD_eq_getElem?_getD, List.getElem?_set]
  by_cases he : s = o
  · subst he
    by_cases hl : s < st.ob.length
    · simp [hl]
    · simp [hl, St.obj, List.getD_eq_getElem?_getD]
  · have : ¬ (o = s ∧ s < st.ob.length) := fun e => he e.1.symm
    simp [he, this, St.obj, List.getD_eq_getElem?_getD]
theorem obj_lt {o : Nat} {ob : Ob} (h : st.obj o = some ob) : o < st.ob.length := by
  rcases Nat.lt_or_ge o st.ob.length with h' | h'
  · exact h'
  · simp [St.obj, List.getD_eq_getElem?_getD, List.getElem?_eq_none h'] at h
def noref (st : St) (s : Nat) : Prop := ∀ t, s ∉ (st.get t).refs
end Go.Proofs.Ytpggfnggffedlaa.Ae

namespace Go.Proofs.Ytpggfnggffedlaa.Ae
open Go Go.RowKit
variable {P : Program} {N : NR} {F0 : Nat → Prop} {M0 : Nat → Nat → Prop} {w0 : World} {hv : Nat → Value} {st : St} {a : Act} {w : World} {o : Oper} {next : Act → World → Prop} {Q : Exit → Act → World → Prop}
theorem wp_value {v : Value} {w' : World} (h : (execOp a.eval o).run P w = .ok (.value v) w') (hn : next (a.put o.dst v) w') : Oper.wp P o a w next Q := by
  unfold Oper.wp
  rw [h]
  exact hn
theorem wp_skip {w' : World} (h : (execOp a.eval o).run P w = .ok .skip w') (hn : next (a.put o.dst undef) w') : Oper.wp P o a w next Q := by
  unfold Oper.wp
  rw [h]
  exact hn
theorem flat_single (cs : List Value) : (cs.map fun v => [v]).flatten = cs := by
  induction cs with
  | nil => rfl
  | cons c cs ih => simp only [List.map_cons, List.flatten_cons, List.singleton_append, ih]
theorem rep_lits {F : Nat → Prop} (cs : List Value) (h : ∀ v ∈ cs, v.oneCell' = true) : Rep N F w (.agg (cs.map .lit)) cs := by
  have := Rep.agg (N := N) (F := F) (w := w) (ds := cs.map .lit) (css := cs.map fun v => [v]) (by simp) (fun i d c h1 h2 => by
    simp only [List.getElem?_map, Option.map_eq_some_iff] at h1 h2
    obtain ⟨v, hv, rfl⟩ := h1
    obtain ⟨v', hv', rfl⟩ := h2
    rw [hv] at hv'
    obtain rfl := Option.some.inj hv'
    exact .lit (h v (List.mem_of_getElem? hv)))
  rwa [flat_single] at this
mutual
theorem flatD_rep {F : Nat → Prop} : ∀ (d : D) (cs : List Value), flatD d = some cs → (∀ v ∈ cs, v.oneCell' = true) → Rep N F w d cs
  | .lit v, cs, h, h1 => by
    simp only [flatD, Option.some.injEq] at h
    subst h
    exact .lit (h1 v (by simp))
  | .agg ds, cs, h, h1 => by
    simp only [flatD] at h
    obtain ⟨css, e, hl, hr⟩ := flatDs_rep ds cs h h1
    rw [← e]
    exact .agg hl hr
  | .num _ _, cs, h, _ => by simp [flatD] at h
  | .sl _ _, cs, h, _ => by simp [flatD] at h
  | .ptr _, cs, h, _ => by simp [flatD] at h
theorem flatDs_rep {F : Nat → Prop} : ∀ (ds : List D) (cs : List Value), flatDs ds = some cs → (∀ v ∈ cs, v.oneCell' = true) →
    ∃ css : List (List Value), css.flatten = cs ∧ css.length = ds.length ∧ ∀ (i : Nat) (d : D) (c : List Value), ds[i]? = some d → css[i]? = some c → Rep N F w d c
  | [], cs, h, _ => by
    simp only [flatDs, Option.some.injEq] at h
    subst h
    exact ⟨[], rfl, rfl, fun i d c h => by simp at h⟩
  | d :: ds, cs, h, h1 => by
    simp only [flatDs] at h
    cases ha : flatD d with
    | none => simp [ha] at h
    | some a =>
      cases hb : flatDs ds with
      | none => simp [ha, hb] at h
      | some b =>
        simp only [ha, hb, Option.some.injEq] at h
        subst h
        have hr := flatD_rep (F := F) d a ha (fun v hv => h1 v (List.mem_append.2 (.inl hv)))
        obtain ⟨css, e, hl, hrs⟩ := flatDs_rep (F := F) ds b hb (fun v hv => h1 v (List.mem_append.2 (.inr hv)))
        refine ⟨a :: css, by rw [List.flatten_cons, e], by simp [hl], fun i d' c g1 g2 => ?_⟩
        cases i with
        | zero =>
          simp only [List.getElem?_cons_zero, Option.some.injEq] at g1 g2
          subst g1 g2
          exact hr
        | succ i => exact hrs i d' c (by simpa using g1) (by simpa using g2)
end
theorem litD_rep {F : Nat → Prop} {z : Value} {t : TypeId} (h : litOk P t z) : Rep N F w (litD P t z) z.cells.toList := flatD_rep _ _ h.2 h.1
theorem ev_rep (h : Rel N F0 M0 w0 hv st a w) (x : Operand) : RepX N (Fr F0 w0 hv st w) hv st w (ev st x) (a.eval x) := by
  cases x with
  | tmp t => exact h.tm t
  | const v =>
    show RepX N _ hv st w (ev st (.const v)) v
    cases v with
    | agg cs =>
      simp only [ev]
      split
      · rename_i hc
        refine ⟨cs.toList, rep_lits _ (fun v hv => ?_), by simp [mkV, D.isAgg]⟩
        exact List.all_eq_true.1 hc v hv
      · trivial
    | _ =>
      simp only [ev]
      split
      · rename_i hc; exact RepV.of_lit hc
      · trivial
  | global g => trivial
  | func f => exact RepV.of_lit rfl
theorem ev_lit (h : Rel N F0 M0 w0 hv st a w) {x : Operand} {v : Value} (e : ev st x = .dat (.lit v)) : a.eval x = v ∧ v.oneCell' = true := by
  have := ev_rep h x
  rw [e] at this
  exact RepV.lit this
theorem ev_dat (h : Rel N F0 M0 w0 hv st a w) {x : Operand} {d : D} (e : ev st x = .dat d) : RepV N (Fr F0 w0 hv st w) w d (a.eval x) := by
  have := ev_rep h x
  rw [e] at this
  exact this
theorem rep_of_lit {v : Value} (h1 : v.oneCell' = true) {F : Nat → Prop} : RepX N F hv st w (.dat (.lit v)) v := RepV.of_lit h1
theorem datas_rep (h : Rel N F0 M0 w0 hv st a w) : ∀ (xs : List Operand) (ds : List D), datas (xs.map (ev st)) = some ds → RepVs N (Fr F0 w0 hv st w) w ds (xs.map a.eval)
  | [], ds, e => by
    simp only [List.map_nil, datas, Option.some.injEq] at e
    subst e
    exact ⟨rfl, fun i d v h1 h2 => by simp at h1⟩
  | x :: xs, ds, e => by
    simp only [List.map_cons] at e
    cases hx : ev st x with
    | dat d =>
      rw [hx] at e
      simp only [datas] at e
      cases hr : datas (xs.map (ev st)) with
      | none => rw [hr] at e; cases e
      | some ds' =>
        rw [hr] at e
        obtain rfl := Option.some.inj e
        have ih := datas_rep h xs ds' hr
        refine ⟨by simp [ih.1], fun i d' v h1 h2 => ?_⟩
        cases i with
        | zero =>
          simp at h1 h2
          subst h1 h2
          exact ev_dat h hx
        | succ i => exact ih.2 i d' v (by simpa using h1) (by simpa using h2)
    | any => rw [hx] at e; simp [datas] at e
    | und => rw [hx] at e; simp [datas] at e
    | tup ds => rw [hx] at e; simp [datas] at e
    | obj _ _ _ => rw [hx] at e; simp [datas] at e
    | row _ => rw [hx] at e; simp [datas] at e
    | elt _ _ _ _ => rw [hx] at e; simp [datas] at e
    | win _ _ _ => rw [hx] at e; simp [datas] at e
    | arr _ _ _ => rw [hx] at e; simp [datas] at e
    | clo _ _ => rw [hx] at e; simp [datas] at e
    | mpx _ => rw [hx] at e; simp [datas] at e
def Computes (P : Program) (N : NR) (st : St) (a : Act) (hv : Nat → Value) (F : Nat → Prop) (w : World) (o : Oper) (r : Out) : Prop := ∃ v, (execOp a.eval o).run P w = .ok (.value v) w ∧ RepX N F hv st w r.x v
theorem Computes.wp (h : Rel N F0 M0 w0 hv st a w) {r : Out} (hc : Computes P N st a hv (Fr F0 w0 hv st w) w o r) (hu : r.up = [])
    (hn : ∀ hv' a' w', Rel N F0 M0 w0 hv' (st.apply o.dst r) a' w' → next a' w') : Oper.wp P o a w next Q := by
  obtain ⟨v, h1, h2⟩ := hc
  refine wp_value h1 (hn hv _ _ ?_)
  obtain ⟨p, x, up⟩ := r
  simp only at hu
  subst hu
  rw [apply_nil]
  exact h.keep h2
theorem run_intOp {op : BinOp} {k : IntKind} {x y : Int} (h : (intOp op k x y).pre) (hop : op ≠ .shl ∧ op ≠ .shr) (t : TypeId) :
    ∃ v, (intOp op k x y).x = .dat (.lit v) ∧ v.oneCell' = true ∧ (binOp op t (.int k x) (.int k y)).run P w = .ok v w ∧ (intOp op k x y).up = [] := by
  cases op <;> simp only [intOp, Out.lit, Out.bad] at h ⊢ <;>
    first
      | exact h.elim
      | exact absurd rfl hop.1
      | exact absurd rfl hop.2
      | exact ⟨_, rfl, rfl, by simp [binOp, Op.intArith, Op.intCmp, Op.intDiv, Op.intBits, h], trivial⟩
theorem run_floatOp {op : BinOp} {k : FloatKind} {x y : Nat} (h : (floatOp op k x y).pre) (t : TypeId) :
    ∃ v, (floatOp op k x y).x = .dat (.lit v) ∧ v.oneCell' = true ∧ (binOp op t (.float k x) (.float k y)).run P w = .ok v w ∧ (floatOp op k x y).up = [] := by
  have ar : ∀ op', (floatBits op' k x y).isSome = true → (binOp op' t (.float k x) (.float k y)).run P w = .ok (.float k ((floatBits op' k x y).getD 0)) w := fun op' hs => by
    obtain ⟨r, hr⟩ := Option.isSome_iff_exists.1 hs
    rw [run_float_arith w op' t k x y r hr, hr]
    rfl
  cases op
  case eql => exact ⟨_, rfl, rfl, by rw [binOp_float_cmp_eql]; rfl, rfl⟩
  case neq => exact ⟨_, rfl, rfl, by rw [binOp_float_cmp_neq]; rfl, rfl⟩
  case lss => exact ⟨_, rfl, rfl, by rw [binOp_float_cmp_lss]; rfl, rfl⟩
  case leq => exact ⟨_, rfl, rfl, by rw [binOp_float_cmp_leq]; rfl, rfl⟩
  case gtr => exact ⟨_, rfl, rfl, by rw [binOp_float_cmp_gtr]; rfl, rfl⟩
  case geq => exact ⟨_, rfl, rfl, by rw [binOp_float_cmp_geq]; rfl, rfl⟩
  all_goals exact ⟨_, rfl, rfl, ar _ h, rfl⟩
theorem run_strOp {op : BinOp} {x y : ByteArray} (h : (strOp op x y).pre) (t : TypeId) :
    ∃ v, (strOp op x y).x = .dat (.lit v) ∧ v.oneCell' = true ∧ (binOp op t (.string x) (.string y)).run P w = .ok v w ∧ (strOp op x y).up = [] := by
  cases op <;> simp only [strOp, Out.bad, Out.lit] at h ⊢ <;> first
    | exact h.elim
    | exact ⟨_, rfl, rfl, by simp only [binOp]; exact run_string_add_sum w _ _ h, trivial⟩
    | exact ⟨_, rfl, rfl, by simp [binOp, Op.stringOp], trivial⟩
theorem run_boolEq {t : TypeId} {x y : Bool} (h : P.underlying t = some .bool) : (Op.equal t (.bool x) (.bool y)).run P w = .ok (x == y) w := by
  unfold Op.equal Op.maxDepth
  rw [show 10000 = 9999 + 1 from rfl]
  unfold Op.equalIn
  simp [run_underlying h]
theorem run_ptrNil {t e : TypeId} {p : Addr} (h : P.underlying t = some (.pointer e)) : (Op.equal t (.pointer (some p)) (.pointer none)).run P w = .ok false w := by
  unfold Op.equal Op.maxDepth
  rw [show 10000 = 9999 + 1 from rfl]
  unfold Op.equalIn
  simp [run_underlying h]
theorem run_nilNil {t e : TypeId} (h : P.underlying t = some (.pointer e)) : (Op.equal t (.pointer none) (.pointer none)).run P w = .ok true w := by
  unfold Op.equal Op.maxDepth
  rw [show 10000 = 9999 + 1 from rfl]
  unfold Op.equalIn
  simp [run_underlying h]
mutual
theorem flat_cells {F : Nat → Prop} : ∀ {d : D} {cs cs' : List Value}, flatD d = some cs → Rep N F w d cs' → cs' = cs
  | .lit v, cs, cs', h, hr => by
    simp only [flatD, Option.some.injEq] at h
    cases hr with
    | lit h1 => exact h
  | .agg ds, cs, cs', h, hr => by
    simp only [flatD] at h
    cases hr with
    | agg hl hr => exact flat_cellss h hl hr
  | .num _ _, _, _, h, _ => by simp [flatD] at h
  | .sl _ _, _, _, h, _ => by simp [flatD] at h
  | .ptr _, _, _, h, _ => by simp [flatD] at h
theorem flat_cellss {F : Nat → Prop} : ∀ {ds : List D} {cs : List Value} {css : List (List Value)}, flatDs ds = some cs → css.length = ds.length → (∀ (i : Nat) (d : D) (c : List Value), ds[i]? = some d → css[i]? = some c → Rep N F w d c) → css.flatten = cs
  | [], cs, css, h, hl, _ => by
    simp only [flatDs, Option.some.injEq] at h
    rw [List.eq_nil_of_length_eq_zero hl, ← h]; rfl
  | d :: ds, cs, [], h, hl, _ => by simp at hl
  | d :: ds, cs, c :: css, h, hl, hr => by
    simp only [flatDs] at h
    cases ha : flatD d with
    | none => simp [ha] at h
    | some a =>
      cases hb : flatDs ds with
      | none => simp [ha, hb] at h
      | some b =>
        simp only [ha, hb, Option.some.injEq] at h
        subst h
        rw [List.flatten_cons, flat_cells ha (hr 0 d c rfl rfl), flat_cellss (ds := ds) (css := css) hb (by simpa using hl) (fun i d' c' h1 h2 => hr (i + 1) d' c' (by simpa using h1) (by simpa using h2))]
end
theorem run_eqA {t : TypeId} {xs ys : List Value} (h : eqPre P t xs ys) : (Op.equal t (.agg xs.toArray) (.agg ys.toArray)).run P w = .ok (eqVs xs ys) w := by
  obtain ⟨⟨fs, hu⟩, ⟨l1, l2⟩, hk, _, la, lb, k1, k2, hiff⟩ := h
  have f1 : (Value.agg xs.toArray).formed P t = true := by simp [Value.formed, hu, l1]
  have f2 : (Value.agg ys.toArray).formed P t = true := by simp [Value.formed, hu, l2]
  obtain ⟨r, hr, hri⟩ := run_equalIn_deep (P := P) 9994 6 t hk w 6 6 (.agg xs.toArray) (.agg ys.toArray) la lb f1 f2 (by simpa [Value.cells] using k1) (by simpa [Value.cells] using k2)
  have e : r = eqVs xs ys := by
    have : r = true ↔ eqVs xs ys = true := hri.trans hiff
    cases r <;> cases hh : eqVs xs ys <;> simp_all
  rw [← e]
  exact hr
theorem binA_sound (h : Rel N F0 M0 w0 hv st a w) {op : BinOp} {t t' : TypeId} {x y : Operand} (ho : o.op = .binOp op t x y t') (hp : (binA P op t (ev st x) (ev st y)).pre) :
    Computes P N st a hv (Fr F0 w0 hv st w) w o (binA P op t (ev st x) (ev st y)) ∧ (binA P op t (ev st x) (ev st y)).up = [] := by
  unfold binA at hp ⊢
  split at hp
  · rename_i k x' k' y' e1 e2
    obtain ⟨v1, _⟩ := ev_lit h e1
    obtain ⟨v2, _⟩ := ev_lit h e2
    split at hp
    · simp only [intOp] at hp ⊢
      refine ⟨⟨_, ?_, rep_of_lit rfl⟩, trivial⟩
      have hn : ¬ y' < 0 := by omega
      simp [execOp, ho, v1, v2, eqGuard, binOp, Op.shift, hn]
    · simp only [intOp] at hp ⊢
      refine ⟨⟨_, ?_, rep_of_lit rfl⟩, trivial⟩
      have hn : ¬ y' < 0 := by omega
      simp [execOp, ho, v1, v2, eqGuard, binOp, Op.shift, hn]
    · rename_i n1 n2
      by_cases hk : k = k'
      · subst hk
        simp only [if_true] at hp ⊢
        obtain ⟨v, ex, h1, hr, hu⟩ := run_intOp (P := P) (w := w) hp ⟨fun e => n1 e, fun e => n2 e⟩ t
        refine ⟨⟨v, ?_, by rw [ex]; exact rep_of_lit h1⟩, hu⟩
        have hg : (eqGuard op t x y (.int k x') (.int k y')).run P w = .ok () w := by
          unfold eqGuard
          split <;> simp
        simp [execOp, ho, v1, v2, hg, hr]
      · simp only [hk, if_false] at hp
        exact hp.elim
  · rename_i x' y' e1 e2
    obtain ⟨v1, _⟩ := ev_lit h e1
    obtain ⟨v2, _⟩ := ev_lit h e2
    obtain ⟨v, ex, h1, hr, hu⟩ := run_strOp (P := P) (w := w) hp t
    refine ⟨⟨v, ?_, by rw [ex]; exact rep_of_lit h1⟩, hu⟩
    have hg : (eqGuard op t x y (.string x') (.string y')).run P w = .ok () w := by
      unfold eqGuard
      split <;> simp
    simp [execOp, ho, v1, v2, hg, hr]
  · rename_i k x' k' y' e1 e2
    obtain ⟨v1, _⟩ := ev_lit h e1
    obtain ⟨v2, _⟩ := ev_lit h e2
    by_cases hk : k = k'
    · subst hk
      simp only [if_true] at hp ⊢
      obtain ⟨v, ex, h1, hr, hu⟩ := run_floatOp (P := P) (w := w) hp t
      refine ⟨⟨v, ?_, by rw [ex]; exact rep_of_lit h1⟩, hu⟩
      have hg : (eqGuard op t x y (.float k x') (.float k y')).run P w = .ok () w := by
        unfold eqGuard
        split <;> simp
      simp [execOp, ho, v1, v2, hg, hr]
    · simp only [hk, if_false] at hp
      exact hp.elim
  · rename_i x' y' e1 e2
    obtain ⟨v1, _⟩ := ev_lit h e1
    obtain ⟨v2, _⟩ := ev_lit h e2
    split at hp
    · refine ⟨⟨_, ?_, rep_of_lit rfl⟩, rfl⟩
      simp only [execOp, ho, v1, v2, eqGuard, binOp]
      simp [run_boolEq (w := w) hp]
    · refine ⟨⟨_, ?_, rep_of_lit rfl⟩, rfl⟩
      simp only [execOp, ho, v1, v2, eqGuard, binOp]
      simp [run_boolEq (w := w) hp]
    · exact hp.elim
  · rename_i d e1 e2
    have v1 := ev_dat h e1
    obtain ⟨v2, _⟩ := ev_lit h e2
    obtain ⟨cs, hr, hv1⟩ := v1
    cases hr with
    | ptr b off es hb hc hr =>
      have hv1 : a.eval x = .pointer (some ⟨b, off, none⟩) := hv1
      split at hp
      · rename_i e' hu
        refine ⟨⟨_, ?_, rep_of_lit rfl⟩, rfl⟩
        simp only [execOp, ho, hv1, v2, eqGuard, binOp]
        simp [run_ptrNil (w := w) hu]
      · rename_i e' hu
        refine ⟨⟨_, ?_, rep_of_lit rfl⟩, rfl⟩
        simp only [execOp, ho, hv1, v2, eqGuard, binOp]
        simp [run_ptrNil (w := w) hu]
      · exact hp.elim
  · rename_i e1 e2
    obtain ⟨v1, _⟩ := ev_lit h e1
    obtain ⟨v2, _⟩ := ev_lit h e2
    split at hp
    · rename_i e' hu
      refine ⟨⟨_, ?_, rep_of_lit rfl⟩, rfl⟩
      simp only [execOp, ho, v1, v2, eqGuard, binOp]
      simp [run_nilNil (w := w) hu]
    · rename_i e' hu
      refine ⟨⟨_, ?_, rep_of_lit rfl⟩, rfl⟩
      simp only [execOp, ho, v1, v2, eqGuard, binOp]
      simp [run_nilNil (w := w) hu]
    · exact hp.elim
  · rename_i xs ys e1 e2
    obtain ⟨ca, hra, va⟩ := ev_dat h e1
    obtain ⟨cb, hrb, vb⟩ := ev_dat h e2
    have va : a.eval x = .agg ca.toArray := va
    have vb : a.eval y = .agg cb.toArray := vb
    split at hp
    · rename_i la' lb' f1 f2
      obtain rfl := flat_cells (d := .agg xs) f1 hra
      obtain rfl := flat_cells (d := .agg ys) f2 hrb
      split at hp
      · have hr := run_eqA (w := w) hp
        refine ⟨⟨_, ?_, rep_of_lit rfl⟩, rfl⟩
        simp only [execOp, ho, va, vb, eqGuard, binOp]
        simp [hr, hp.2.2.2.1]
      · have hr := run_eqA (w := w) hp
        refine ⟨⟨_, ?_, rep_of_lit rfl⟩, rfl⟩
        simp only [execOp, ho, va, vb, eqGuard, binOp]
        simp [hr, hp.2.2.2.1]
      · exact hp.elim
    · exact hp.elim
  · exact hp.elim
theorem unA_sound (h : Rel N F0 M0 w0 hv st a w) {op : UnOp} {t : TypeId} {x : Operand} (ho : o.op = .unOp op t x) (hp : (unA op (ev st x)).pre) :
    Computes P N st a hv (Fr F0 w0 hv st w) w o (unA op (ev st x)) ∧ (unA op (ev st x)).up = [] := by
  unfold unA at hp ⊢
  split at hp
  · rename_i k x' e1
    obtain ⟨v1, _⟩ := ev_lit h e1
    split at hp
    · refine ⟨⟨_, ?_, rep_of_lit rfl⟩, rfl⟩
      simp [execOp, ho, v1, Op.unary, Op.intArith]
    · refine ⟨⟨_, ?_, rep_of_lit rfl⟩, rfl⟩
      simp [execOp, ho, v1, Op.unary, Op.intBits]
    · exact hp.elim
  · rename_i b e1
    obtain ⟨v1, _⟩ := ev_lit h e1
    split at hp
    · refine ⟨⟨_, ?_, rep_of_lit rfl⟩, rfl⟩
      simp [execOp, ho, v1, Op.unary]
    · exact hp.elim
  · rename_i k x' e1
    obtain ⟨v1, _⟩ := ev_lit h e1
    split at hp
    · refine ⟨⟨_, ?_, rep_of_lit rfl⟩, rfl⟩
      simp [execOp, ho, v1, Op.unary]
    · exact hp.elim
  · exact hp.elim
theorem pickA_sound (h : Rel N F0 M0 w0 hv st a w) {c x y : Operand} (ho : o.op = .pick c x y) (hp : (pickA (ev st c) (ev st x) (ev st y)).pre) :
    Computes P N st a hv (Fr F0 w0 hv st w) w o (pickA (ev st c) (ev st x) (ev st y)) ∧ (pickA (ev st c) (ev st x) (ev st y)).up = [] := by
  unfold pickA at hp ⊢
  split at hp
  · rename_i c' e1
    obtain ⟨v1, _⟩ := ev_lit h e1
    have hx := ev_rep h x
    have hy := ev_rep h y
    have hrun : (execOp a.eval o).run P w = .ok (.value (if c' then a.eval x else a.eval y)) w := by
      simp [execOp, ho, v1, asBool]
    split
    · rename_i b1 b2 e2 e3
      obtain ⟨v2, _⟩ := ev_lit h e2
      obtain ⟨v3, _⟩ := ev_lit h e3
      refine ⟨⟨_, hrun, ?_⟩, rfl⟩
      rw [v2, v3]
      cases c' <;> exact rep_of_lit rfl
    · refine ⟨⟨_, hrun, ?_⟩, rfl⟩
      cases c'
      · exact hy
      · exact hx
  · exact hp.elim
end Go.Proofs.Ytpggfnggffedlaa.Ae

namespace Go.Proofs.Ytpggfnggffedlaa.Ae
open Go Go.RowKit
variable {P : Program} {N : NR} {F0 : Nat → Prop} {M0 : Nat → Nat → Prop} {w0 : World} {hv : Nat → Value} {st : St} {a : Act} {w : World} {o : Oper} {next : Act → World → Prop} {Q : Exit → Act → World → Prop}
theorem add_plain (b off j : Nat) : (⟨b, off, none⟩ : Addr).add j = ⟨b, off + j, none⟩ := by unfold Addr.add; split <;> simp_all
theorem cellsOf_info {t : TypeId} {i : TypeInfo} (h : P.info? t = some i) : P.cellsOf t = i.size := by simp [Program.cellsOf, h]
theorem run_sizeOf {t : TypeId} (h : (P.info? t).isSome = true) : (sizeOf t).run P w = .ok (P.cellsOf t) w := by
  obtain ⟨i, hi⟩ := Option.isSome_iff_exists.1 h
  rw [cellsOf_info hi]
  simp [sizeOf, typeInfo, hi]
theorem run_isAgg {t : TypeId} (h : (P.underlying t).isSome = true) : (isAgg t).run P w = .ok (isAggT P t) w := by
  obtain ⟨d, hd⟩ := Option.isSome_iff_exists.1 h
  unfold isAggT
  rw [hd]
  cases d <;> simp [isAgg, run_underlying hd]
theorem run_loadVar {t : TypeId} {b off : Nat} {es : List Value} (hc : Cells w b off es) (hl : es.length = P.cellsOf t) (hu : (P.underlying t).isSome = true) (hi : (P.info? t).isSome = true) (h1 : isAggT P t = false → es.length = 1) :
    (loadVar t ⟨b, off, none⟩).run P w = .ok (if isAggT P t then .agg es.toArray else es.headD undef) w := by
  unfold loadVar
  simp only [Sem.run_bind, run_isAgg hu, Result.andThen_ok]
  cases h : isAggT P t with
  | true =>
    have hlc := run_loadCells_list (P := P) w ⟨b, off, none⟩ es (fun j v hj => by rw [add_plain]; exact hc j v hj)
    rw [hl] at hlc
    simp [run_sizeOf hi, hlc]
  | false =>
    match es, h1 h with
    | [c], _ =>
      have := hc 0 c rfl
      simp only [Nat.add_zero] at this
      simp [this]
theorem run_storeVar {t t' : TypeId} {b off : Nat} {v : Value} {cur : Array Value} (hg : w.heap[b]? = some (.cells cur t' (0, 0))) (hl : v.cells.size = P.cellsOf t) (hi : (P.info? t).isSome = true)
    (hlen : off + v.cells.size ≤ cur.size) (h1 : ∀ u ∈ v.cells.toList, u.oneCell' = true) :
    (storeVar t ⟨b, off, none⟩ v).run P w = .ok () (w.setRow b (cur.toList.take off ++ v.cells.toList ++ cur.toList.drop (off + v.cells.size)).toArray) := by
  have := run_storeCells_at (P := P) b off t' v.cells.toList 0 cur w hg (by simpa using hlen) h1
  simp only [Nat.add_zero, Array.length_toList] at this
  unfold storeVar
  simp [run_sizeOf hi, hl, this]
theorem box_rep (h : Rel N F0 M0 w0 hv st a w) {s : Nat} {d : D} (hs : st.box? s = some d) : ∃ b cs t, hv s = .pointer (some ⟨b, 0, none⟩) ∧ w.heap[b]? = some (.cells cs t (0, 0)) ∧ Rep N (Fr F0 w0 hv st w) w d cs.toList := by
  unfold St.box? at hs
  split at hs
  · rename_i d' hd; obtain rfl := Option.some.inj hs; exact h.ob s _ hd
  · rename_i d' hd; obtain rfl := Option.some.inj hs; exact h.ob s _ hd
  · rename_i d' hd; obtain rfl := Option.some.inj hs; exact h.ob s _ hd
  · cases hs
theorem row_rep (h : Rel N F0 M0 w0 hv st a w) {s sz : Nat} {e : TypeId} {xs : List D} (hs : st.row? s = some (sz, e, xs)) :
    ∃ css : List (List Value), w.ownsRow 0 e sz (hv s) xs.length css.flatten ∧ css.length = xs.length ∧ ∀ (i : Nat) (d : D) (cs : List Value), xs[i]? = some d → css[i]? = some cs → cs.length = sz ∧ Rep N (Fr F0 w0 hv st w) w d cs := by
  unfold St.row? at hs
  split at hs
  · rename_i hd
    simp only [Option.some.injEq, Prod.mk.injEq] at hs
    obtain ⟨rfl, rfl, rfl⟩ := hs
    exact h.ob s _ hd
  · rename_i hd
    simp only [Option.some.injEq, Prod.mk.injEq] at hs
    obtain ⟨rfl, rfl, rfl⟩ := hs
    exact h.ob s _ hd
  · rename_i hd
    simp only [Option.some.injEq, Prod.mk.injEq] at hs
    obtain ⟨rfl, rfl, rfl⟩ := hs
    obtain ⟨css, h1, h2, h3⟩ := h.ob s _ hd
    exact ⟨css, h1.1, h2, h3⟩
  · cases hs
theorem flat_get {sz : Nat} : ∀ (css : List (List Value)) (j i : Nat) (cs : List Value) (v : Value), (∀ (k : Nat) (cs : List Value), css[k]? = some cs → cs.length = sz) → css[j]? = some cs → cs[i]? = some v → css.flatten[j * sz + i]? = some v
  | [], j, i, cs, v, _, h, _ => by simp at h
  | c :: css, 0, i, cs, v, _, h, hi => by
    simp at h
    subst h
    have := (List.getElem?_eq_some_iff.1 hi).1
    simp only [Nat.zero_mul, Nat.zero_add, List.flatten_cons]
    rw [List.getElem?_append_left this]
    exact hi
  | c :: css, j + 1, i, cs, v, hl, h, hi => by
    have hc := hl 0 c rfl
    have := flat_get css j i cs v (fun k cs hk => hl (k + 1) cs (by simpa using hk)) (by simpa using h) hi
    simp only [List.flatten_cons]
    rw [List.getElem?_append_right (by rw [hc, Nat.add_mul]; omega), hc, ← this]
    congr 1
    rw [Nat.add_mul]
    omega
theorem row_elt (h : Rel N F0 M0 w0 hv st a w) {s sz : Nat} {e : TypeId} {xs : List D} (hs : st.row? s = some (sz, e, xs)) {j : Nat} {d : D} (hj : xs[j]? = some d) :
    ∃ b n c es, hv s = .slice (some ⟨b, 0, none⟩) n c ∧ Cells w b (j * sz) es ∧ Rep N (Fr F0 w0 hv st w) w d es := by
  obtain ⟨css, h1, h2, h3⟩ := row_rep h hs
  have hlt := (List.getElem?_eq_some_iff.1 hj).1
  have hc : css[j]? = some css[j] := List.getElem?_eq_getElem (by omega)
  obtain ⟨hlen, hown⟩ := h1
  rcases hown with ⟨_, hn⟩ | ⟨g, cap, cur, hv', _, hg, _, _, _, htake⟩
  · omega
  · refine ⟨g, _, _, css[j], hv', fun i v hi => ?_, (h3 j d _ hj hc).2⟩
    have := flat_get (sz := sz) css j i _ v (fun k cs hk => by
      have hk' : k < xs.length := by have := (List.getElem?_eq_some_iff.1 hk).1; omega
      exact (h3 k xs[k] cs (List.getElem?_eq_getElem hk') hk).1) hc hi
    rw [← htake, List.getElem?_take] at this
    split at this
    · simp only [World.cell?, hg]
      simpa using this
    · cases this
theorem part_cells {F : Nat → Prop} {d e : D} {p : List Nat} {b off off' : Nat} {es : List Value} (hc : Cells w b off es) (hr : Rep N F w d es) (hn : nav d p = some (e, off')) :
    ∃ es', Cells w b (off + off') es' ∧ Rep N F w e es' := by
  obtain ⟨m1, m2⟩ := nav_rep p d es e off' hr hn
  refine ⟨_, fun j v hj => ?_, m1⟩
  rw [List.getElem?_take, List.getElem?_drop] at hj
  split at hj
  · rw [Nat.add_assoc]
    exact hc _ v hj
  · cases hj
theorem cells_of_block {b : Nat} {cs : Array Value} {t : TypeId} (hc : w.heap[b]? = some (.cells cs t (0, 0))) : Cells w b 0 cs.toList := by
  intro j v hj
  simp only [World.cell?, hc]
  simpa using hj
theorem load_sound (h : Rel N F0 M0 w0 hv st a w) {t : TypeId} {x : Operand} (ho : o.op = .load t x) {d : D} {b off : Nat} {es : List Value} (hx : a.eval x = .pointer (some ⟨b, off, none⟩)) (hc : Cells w b off es)
    (hr : Rep N (Fr F0 w0 hv st w) w d es) (h1 : P.cellsOf t = d.size) (h2 : isAggT P t = d.isAgg) (h3 : (P.underlying t).isSome = true) (h4 : (P.info? t).isSome = true) (p : Prop) :
    Computes P N st a hv (Fr F0 w0 hv st w) w o ⟨p, .dat d, []⟩ := by
  have hl := hr.len
  refine ⟨mkV d es, ?_, es, hr, rfl⟩
  have := run_loadVar (P := P) (t := t) hc (by omega) h3 h4 (fun hf => by rw [hl]; exact D.one_cell (by rw [← h2]; exact hf))
  simp only [execOp, ho, hx, Instr.loadAt, Instr.sureAddr]
  simp [this, mkV, h2]
theorem fieldAddr_run {s : TypeId} {x : Operand} {i : Nat} (ho : o.op = .fieldAddr s x i) {fs : Array Field} {f : Field} (hu : P.underlying s = some (.struct fs)) (hf : fs[i]? = some f) {b off : Nat}
    (hx : a.eval x = .pointer (some ⟨b, off, none⟩)) (hne : P.cellsOf f.type ≠ 0) : (execOp a.eval o).run P w = .ok (.value (.pointer (some ⟨b, off + f.offset, none⟩))) w := by
  have hi : (P.info? f.type).isSome = true := by
    cases h : P.info? f.type with
    | none => simp [Program.cellsOf, h] at hne
    | some _ => rfl
  simp only [execOp, ho, hx, Instr.fieldAt]
  simp [run_underlying hu, hf, Instr.sureAddr, fieldPlace, run_sizeOf hi, hne, add_plain]
theorem arrAddr_run {t e : TypeId} {m : Nat} {n : Int} {k : IntKind} {b off : Nat} {x y : Operand} (ho : o.op = .indexAddr t x y) (hu : P.underlying t = some (.array m e)) (hi : (P.info? e).isSome = true) (hx : a.eval x = .pointer (some ⟨b, off, none⟩)) (hy : a.eval y = .int k n)
    (h0 : 0 ≤ n) (h1 : n < m) : (execOp a.eval o).run P w = .ok (.value (.pointer (some ⟨b, off + n.toNat * P.cellsOf e, none⟩))) w := by
  simp only [execOp, ho, hx, hy, Instr.indexAt]
  simp [asIntOf, run_underlying hu, Instr.sureAddr, h0, h1, run_sizeOf hi, add_plain]
theorem run_partD {F : Nat → Prop} {e : TypeId} {ds : List D} {i : Nat} {d : D} {cs : List Value} (hr : Rep N F w (.agg ds) cs) (hd : ds[i]? = some d) (h1 : P.cellsOf e = d.size) (h2 : isAggT P e = d.isAgg) (h3 : (P.info? e).isSome = true) (h4 : (P.underlying e).isSome = true) :
    ∃ v, (part e cs.toArray (D.sizes (ds.take i))).run P w = .ok v w ∧ RepV N F w d v := by
  have hnav : nav (.agg ds) [i] = some (d, D.sizes (ds.take i) + 0) := by simp only [nav, hd]
  obtain ⟨m1, m2⟩ := nav_rep [i] (.agg ds) cs d _ hr hnav
  simp only [Nat.add_zero] at m1 m2
  refine ⟨mkV d ((cs.drop (D.sizes (ds.take i))).take d.size), ?_, _, m1, rfl⟩
  obtain ⟨it, hit⟩ := Option.isSome_iff_exists.1 h3
  obtain ⟨u, hu⟩ := Option.isSome_iff_exists.1 h4
  unfold isAggT at h2
  rw [hu] at h2
  have hag : (isAgg e).run P w = .ok d.isAgg w := by
    unfold isAgg
    rw [← h2]
    cases u <;> simp [run_underlying hu]
  cases hA : d.isAgg with
  | true =>
    rw [hA] at hag
    simp only [part, Sem.run_bind, hag]
    simp [run_sizeOf h3, mkV, hA, h1]
  | false =>
    rw [hA] at hag
    have hone := D.one_cell hA
    have hlt : D.sizes (ds.take i) < cs.length := by omega
    have hge : cs.toArray[D.sizes (ds.take i)]? = some cs[D.sizes (ds.take i)] := by simp [hlt]
    simp only [part, Sem.run_bind, hag]
    have hd1 : (cs.drop (D.sizes (ds.take i))).take d.size = [cs[D.sizes (ds.take i)]] := by
      rw [hone, List.drop_eq_getElem_cons hlt]; rfl
    rw [hd1]
    unfold mkV
    rw [hA]
    simp only [hge]
    rfl
def Ob.like : Ob → Ob → Prop
  | .pbox _, .pbox _ => True
  | .box _, .box _ => True
  | .row sz e _, .row sz' e' _ => sz = sz' ∧ e = e'
  | .prow sz e cp xs, .prow sz' e' cp' xs' => sz = sz' ∧ e = e' ∧ cp = cp' ∧ xs.length = xs'.length
  | .mp _ _, .mp _ _ => True
  | _, _ => False
theorem like_live {x y : Ob} (h : x.like y) : x.live = true ∧ y.live = true := by
  cases x <;> cases y <;> first | exact h.elim | exact ⟨rfl, rfl⟩
theorem setRow_size (w : World) (b : Nat) (cs : Array Value) : (w.setRow b cs).heap.size = w.heap.size := by simp [World.setRow]
theorem frame_setRow (w : World) (b : Nat) (cs : Array Value) : Frame0 (fun k => k = b) w (w.setRow b cs) :=
  ⟨rfl, rfl, rfl, by rw [setRow_size]; exact Nat.le_refl _, fun k _ hk => setRow_other w _ _ _ hk⟩
theorem Rel.turn {s : Nat} {ob ob' : Ob} {b : Nat} {w' : World} (h : Rel N F0 M0 w0 hv st a w) (hs : st.obj s = some ob) (hk : ob.like ob') (hb : blkOf (hv s) = some b) (hbel : Frame0 (fun k => k = b) w w')
    (hob : ObR N (Fr F0 w0 hv st w) w' ob' (hv s)) (dst : Option Nat) : Rel N F0 M0 w0 hv { (st.put dst .und) with ob := st.ob.set s (some ob') } (a.put dst undef) w' := by
  obtain ⟨l1, l2⟩ := like_live hk
  have hlt := obj_lt hs
  have hobj : ∀ o, St.obj { (st.put dst .und) with ob := st.ob.set s (some ob') } o = if o = s then some ob' else st.obj o := by
    intro o
    rw [set_obj]
    by_cases he : o = s
    · simp [he, hlt]
    · simp [he]
  have hFne : ∀ k, Fr F0 w0 hv st w k → k ≠ b := by
    rintro k (hb0 | ⟨_, _, h3⟩) e
    · subst e
      have h1 := h.lt0 k hb0
      have h2 := h.own s ob k hs hb
      cases ob <;> first | exact h1.2 ⟨_, h2⟩ | (simp only at h2; omega)
    · subst e; exact h3 s ob hs l1 hb
  have hblt : b < w.heap.size := (h.ob s ob hs).lt b hb
  have hM : ∀ k, k = b → k < w0.heap.size → Mb M0 k := by
    rintro k rfl hlt
    have h2 := h.own s ob k hs hb
    cases ob <;> first | exact ⟨_, h2⟩ | (simp only at h2; omega)
  have hF : ∀ k, Fr F0 w0 hv st w k → Fr F0 w0 hv { (st.put dst .und) with ob := st.ob.set s (some ob') } w' k ∧ w'.heap[k]? = w.heap[k]? := by
    intro k hk'
    have hne := hFne k hk'
    rcases hk' with hb0 | ⟨h1, h2, h3⟩
    · exact ⟨.inl hb0, hbel.block k (by have := (h.lt0 k hb0).1; have := h.bel.size; omega) hne⟩
    · refine ⟨.inr ⟨h1, by have := hbel.size; omega, fun o o1 hd hl => ?_⟩, hbel.block k h2 hne⟩
      rw [hobj] at hd
      by_cases hos : o = s
      · subst hos; rw [hb]; intro e; exact hne (Option.some.inj e).symm
      · rw [if_neg hos] at hd; exact h3 o o1 hd hl
  refine h.step rfl hbel hM hF (fun t o _ => ⟨fun _ => rfl, fun hd => ?_, fun sz e xs hr => ?_, fun _ => rfl, fun hI => ?_⟩) (fun o o1 hd => ?_) (fun o o1 k hd hk1 => ?_) (fun o o' o1 o2 k h1 h2 => ?_) rfl
  · unfold St.box? at hd ⊢
    rw [hobj] at hd
    by_cases hos : o = s
    · subst hos
      rw [if_pos rfl] at hd
      rw [hs]
      cases ob <;> cases ob' <;> first | exact hk.elim | exact ⟨_, rfl⟩ | (simp at hd)
    · rw [if_neg hos] at hd; exact hd
  · unfold St.row? at hr ⊢
    rw [hobj] at hr
    by_cases hos : o = s
    · subst hos
      rw [if_pos rfl] at hr
      rw [hs]
      cases ob <;> cases ob' <;> first | exact hk.elim | (simp at hr; done) | skip
      · rename_i sz1 e1 xs1 sz2 e2 xs2
        simp only [Option.some.injEq, Prod.mk.injEq] at hr
        obtain ⟨rfl, rfl, rfl⟩ := hr
        obtain ⟨rfl, rfl⟩ := hk
        exact ⟨xs1, rfl⟩
      · rename_i sz1 e1 cp1 xs1 sz2 e2 cp2 xs2
        simp only [Option.some.injEq, Prod.mk.injEq] at hr
        obtain ⟨rfl, rfl, rfl⟩ := hr
        obtain ⟨rfl, rfl, _⟩ := hk
        exact ⟨xs1, rfl⟩
    · rw [if_neg hos] at hr; exact ⟨xs, hr⟩
  · unfold St.mp? at hI ⊢
    rw [hobj] at hI
    by_cases hos : o = s
    · subst hos
      rw [if_pos rfl] at hI
      rw [hs]
      cases ob <;> cases ob' <;> first | exact hk.elim | exact ⟨_, rfl⟩ | (simp at hI)
    · rw [if_neg hos] at hI; exact hI
  · rw [hobj] at hd
    by_cases hos : o = s
    · subst hos
      rw [if_pos rfl] at hd
      obtain rfl := Option.some.inj hd
      exact hob.mono (fun k hk' => ⟨(hF k hk').1, rfl⟩) (fun _ _ => rfl)
    · rw [if_neg hos] at hd
      have hr := h.ob o o1 hd
      refine hr.mono hF (fun k hk' => hbel.block k (hr.lt k hk') (fun e => ?_))
      subst e
      exact hos (h.inj o s o1 ob k hd hs hk' hb)
  · rw [hobj] at hd
    by_cases hos : o = s
    · subst hos
      rw [if_pos rfl] at hd
      obtain rfl := Option.some.inj hd
      have := h.own o ob k hs hk1
      cases ob <;> cases ob' <;> first | exact hk.elim | exact this
    · rw [if_neg hos] at hd; exact h.own o o1 k hd hk1
  · have g : ∀ o o1, (if o = s then some ob' else st.obj o) = some o1 → ∃ o2, st.obj o = some o2 := by
      intro o o1 hd
      by_cases hos : o = s
      · subst hos; exact ⟨ob, hs⟩
      · rw [if_neg hos] at hd; exact ⟨o1, hd⟩
    rw [hobj] at h1 h2
    obtain ⟨x1, hx1⟩ := g o o1 h1
    obtain ⟨x2, hx2⟩ := g o' o2 h2
    exact h.inj o o' x1 x2 k hx1 hx2
theorem Fr_lt (h : Rel N F0 M0 w0 hv st a w) (k : Nat) (hk : Fr F0 w0 hv st w k) : k < w.heap.size := by
  rcases hk with hk | ⟨_, h2, _⟩
  · have := (h.lt0 k hk).1; have := h.bel.size; omega
  · exact h2
theorem Rel.new' {s : Nat} {s0 : Option Nat} {ob : Ob} {v : Value} {x : X} {w' : World} {M1 : Nat → Prop} (h : Rel N F0 M0 w0 hv st a w) (hs : st.obj s = none) (hlt : s < st.ob.length) (hno : noref st s)
    (hbel : Frame0 M1 w w') (hM1 : ∀ k, M1 k → ∃ o ob, s0 = some o ∧ st.obj o = some ob ∧ ob.live = true ∧ ob.mine ∧ blkOf (hv o) = some k)
    (hblk : ∀ k, blkOf v = some k → w.heap.size ≤ k ∨ M1 k) (hob : ∀ F' : Nat → Prop, (∀ k, Fr F0 w0 hv st w k → F' k) → (∀ k, w.heap.size ≤ k → k < w'.heap.size → blkOf v ≠ some k → F' k) → (∀ o1 ob1 k, s0 = some o1 → st.obj o1 = some ob1 → ob1.mine → blkOf (hv o1) = some k → blkOf v ≠ some k → F' k) → ObR N F' w' ob v) (hnp : ob.mine)
    (hx : (x = .obj s [] 0 ∧ ∃ b, v = .pointer (some ⟨b, 0, none⟩)) ∨ x = .row s ∨ x = .mpx s) :
    ∃ hv', Rel N F0 M0 w0 hv' { (st.put (some s) x) with ob := (match s0 with | some o => st.ob.set o none | none => st.ob).set s (some ob) } (a.put (some s) v) w' := by
  have hsz := h.bel.size
  let st' : St := { (st.put (some s) x) with ob := (match s0 with | some o => st.ob.set o none | none => st.ob).set s (some ob) }
  have hobj : ∀ o, St.obj st' o = if o = s then some ob else if s0 = some o then none else st.obj o := by
    intro o
    cases s0 with
    | none =>
      show St.obj ⟨_, st.ob.set s (some ob)⟩ o = _
      rw [set_obj]
      by_cases he : o = s
      · simp [he, hlt]
      · simp [he]
    | some o0 =>
      show St.obj ⟨_, (st.ob.set o0 none).set s (some ob)⟩ o = _
      have e1 := set_obj (st := ⟨st.tm, st.ob.set o0 none⟩) (St.put st (some s) x).tm s (some ob) o
      have e2 := set_obj (st := st) st.tm o0 none o
      simp only [List.length_set] at e1
      rw [e1, e2]
      by_cases he : o = s
      · simp [he, hlt]
      · by_cases h0 : o = o0
        · subst h0
          by_cases hl : o < st.ob.length
          · simp [he, hl]
          · have : st.obj o = none := by simp [St.obj, List.getD_eq_getElem?_getD, List.getElem?_eq_none (Nat.le_of_not_lt hl)]
            simp [he, hl, this]
        · have : ¬ (o0 = o) := fun e => h0 e.symm
          simp [he, h0, this]
  let hv' : Nat → Value := fun o => if o = s then v else hv o
  have hne : ∀ o d', st.obj o = some d' → o ≠ s := by
    intro o d' hd e
    subst e
    rw [hs] at hd
    cases hd
  have hvne : ∀ o, o ≠ s → hv' o = hv o := fun o ho => if_neg ho
  have hvs : hv' s = v := if_pos rfl
  have hold : ∀ o d' k, st.obj o = some d' → blkOf (hv o) = some k → k < w.heap.size := fun o d' k hd hk => (h.ob o d' hd).lt k hk
  have hFM : ∀ k, Fr F0 w0 hv st w k → ¬ M1 k := by
    intro k hk hm
    obtain ⟨o1, ob1, _, h2, h3, h4, h5⟩ := hM1 k hm
    rcases hk with hk | ⟨_, _, g⟩
    · have := h.lt0 k hk
      have g2 := h.own o1 ob1 k h2 h5
      cases ob1 <;> first | exact h4.elim | (simp only at g2; omega)
    · exact g o1 ob1 h2 h3 h5
  have hF : ∀ b, Fr F0 w0 hv st w b → Fr F0 w0 hv' st' w' b ∧ w'.heap[b]? = w.heap[b]? := by
    intro b hb
    have hlt' := Fr_lt h b hb
    have hnm := hFM b hb
    refine ⟨?_, hbel.block b hlt' hnm⟩
    rcases hb with hb0 | ⟨h1, h2, h3⟩
    · exact .inl hb0
    · refine .inr ⟨h1, by have := hbel.size; omega, fun o o1 hd hl => ?_⟩
      rw [hobj] at hd
      by_cases hos : o = s
      · subst hos
        rw [hvs]
        intro e
        rcases hblk b e with g | g
        · omega
        · exact hnm g
      · rw [if_neg hos] at hd
        rw [hvne o hos]
        split at hd
        · cases hd
        · exact h3 o o1 hd hl
  have hback : ∀ o o1, o ≠ s → St.obj st' o = some o1 → st.obj o = some o1 ∧ s0 ≠ some o := by
    intro o o1 hos hd
    rw [hobj, if_neg hos] at hd
    split at hd
    · cases hd
    · rename_i hn; exact ⟨hd, hn⟩
  refine ⟨hv', h.step rfl hbel (fun k hm hk => ?_) hF (fun t o hr => ?_) (fun o o1 hd => ?_) (fun o o1 k hd hk1 => ?_) (fun o o' o1 o2 k h1 h2 e1 e2 => ?_) ?_⟩
  · obtain ⟨o1, ob1, _, h2, h3, h4, h5⟩ := hM1 k hm
    have g2 := h.own o1 ob1 k h2 h5
    cases ob1 <;> first | exact h4.elim | (simp only at g2; omega)
  · have hos : o ≠ s := fun e => hno t (e ▸ hr)
    refine ⟨fun _ => hvne o hos, fun hd => ?_, fun sz e xs hr => ?_, fun _ => hvne o hos, fun hI => ?_⟩
    · unfold St.box? at hd ⊢
      have : (St.obj st' o = st.obj o) ∨ St.obj st' o = none := by
        rw [hobj, if_neg hos]
        split
        · exact .inr rfl
        · exact .inl rfl
      rcases this with e | e
      · rw [e] at hd; exact hd
      · rw [e] at hd; simp at hd
    · unfold St.row? at hr ⊢
      have : (St.obj st' o = st.obj o) ∨ St.obj st' o = none := by
        rw [hobj, if_neg hos]
        split
        · exact .inr rfl
        · exact .inl rfl
      rcases this with e | e
      · rw [e] at hr; exact ⟨xs, hr⟩
      · rw [e] at hr; simp at hr
    · unfold St.mp? at hI ⊢
      have : (St.obj st' o = st.obj o) ∨ St.obj st' o = none := by
        rw [hobj, if_neg hos]
        split
        · exact .inr rfl
        · exact .inl rfl
      rcases this with e | e
      · rw [e] at hI; exact hI
      · rw [e] at hI; simp at hI
  · by_cases hos : o = s
    · subst hos
      rw [hobj, if_pos rfl] at hd
      obtain rfl := Option.some.inj hd
      rw [hvs]
      refine hob _ (fun k hk' => (hF k hk').1) (fun k k1 k2 k3 => .inr ⟨by omega, k2, fun o' o1 hd' hl' e => ?_⟩) (fun o2 ob2 k g0 g1 g2 g3 g4 => .inr ⟨?_, ?_, fun o' o1 hd' hl' e => ?_⟩)
      · by_cases hos' : o' = o
        · subst hos'
          rw [hvs] at e
          exact k3 e
        · obtain ⟨g1, _⟩ := hback o' o1 hos' hd'
          rw [hvne o' hos'] at e
          have := hold o' o1 k g1 e
          omega
      · have := h.own o2 ob2 k g1 g3
        cases ob2 <;> first | exact g2.elim | exact this
      · have := hold o2 ob2 k g1 g3
        have := hbel.size
        omega
      · by_cases hos' : o' = o
        · subst hos'
          rw [hvs] at e
          exact g4 e
        · obtain ⟨q1, q2⟩ := hback o' o1 hos' hd'
          rw [hvne o' hos'] at e
          have := h.inj o' o2 o1 ob2 k q1 g1 e g3
          subst this
          exact q2 g0
    · obtain ⟨hd', hn⟩ := hback o o1 hos hd
      rw [hvne o hos]
      have hr := h.ob o o1 hd'
      refine hr.mono hF (fun k hk' => hbel.block k (hr.lt k hk') (fun hm => ?_))
      obtain ⟨o2, ob2, g1, g2, _, _, g5⟩ := hM1 k hm
      have := h.inj o o2 o1 ob2 k hd' g2 hk' g5
      subst this
      exact hn g1
  · by_cases hos : o = s
    · subst hos
      rw [hobj, if_pos rfl] at hd
      obtain rfl := Option.some.inj hd
      rw [hvs] at hk1
      have hge : w0.heap.size ≤ k := by
        rcases hblk k hk1 with g | g
        · omega
        · obtain ⟨o2, ob2, g1, g2, _, g4, g5⟩ := hM1 k g
          have := h.own o2 ob2 k g2 g5
          cases ob2 <;> first | exact g4.elim | exact this
      cases ob <;> first | exact hnp.elim | exact hge
    · obtain ⟨hd', hn⟩ := hback o o1 hos hd
      rw [hvne o hos] at hk1
      exact h.own o o1 k hd' hk1
  · have key : ∀ o o1 k, o ≠ s → St.obj st' o = some o1 → blkOf (hv' o) = some k → blkOf v = some k → False := by
      intro o o1 k hos hd hk1 hk2
      obtain ⟨hd', hn⟩ := hback o o1 hos hd
      rw [hvne o hos] at hk1
      rcases hblk k hk2 with g | g
      · have := hold o o1 k hd' hk1; omega
      · obtain ⟨o2, ob2, g1, g2, _, g4, g5⟩ := hM1 k g
        have := h.inj o o2 o1 ob2 k hd' g2 hk1 g5
        subst this
        exact hn g1
    by_cases ha : o = s
    · by_cases hb : o' = s
      · rw [ha, hb]
      · subst ha
        rw [hvs] at e1
        exact (key o' o2 k hb h2 e2 e1).elim
    · by_cases hb : o' = s
      · subst hb
        rw [hvs] at e2
        exact (key o o1 k ha h1 e1 e2).elim
      · obtain ⟨g1, _⟩ := hback o o1 ha h1
        obtain ⟨g2, _⟩ := hback o' o2 hb h2
        rw [hvne o ha] at e1
        rw [hvne o' hb] at e2
        exact h.inj o o' o1 o2 k g1 g2 e1 e2
  · rcases hx with ⟨rfl, b, hb⟩ | rfl | rfl
    · exact ⟨b, hb, fun _ => by rw [hvs]; exact hb⟩
    · intro _
      exact hvs.symm
    · intro _
      exact hvs.symm
theorem Rel.new {s : Nat} {s0 : Option Nat} {ob : Ob} {v : Value} {x : X} {w' : World} {M1 : Nat → Prop} (h : Rel N F0 M0 w0 hv st a w) (hs : st.obj s = none) (hlt : s < st.ob.length) (hno : noref st s)
    (hbel : Frame0 M1 w w') (hM1 : ∀ k, M1 k → ∃ o ob, s0 = some o ∧ st.obj o = some ob ∧ ob.live = true ∧ ob.mine ∧ blkOf (hv o) = some k)
    (hblk : ∀ k, blkOf v = some k → w.heap.size ≤ k ∨ M1 k) (hob : ObR N (Fr F0 w0 hv st w) w' ob v) (hnp : ob.mine)
    (hx : (x = .obj s [] 0 ∧ ∃ b, v = .pointer (some ⟨b, 0, none⟩)) ∨ x = .row s ∨ x = .mpx s) :
    ∃ hv', Rel N F0 M0 w0 hv' { (st.put (some s) x) with ob := (match s0 with | some o => st.ob.set o none | none => st.ob).set s (some ob) } (a.put (some s) v) w' :=
  h.new' hs hlt hno hbel hM1 hblk (fun F' h1 _ _ => hob.mono (fun k hk => ⟨h1 k hk, rfl⟩) (fun _ _ => rfl)) hnp hx
theorem partsOk_fill (P : Program) : ∀ (fs : List Field) (ds : List D) (off : Nat), partsOk P fs ds off → fs.length = ds.length ∧ ∀ (i : Nat) (f : Field) (d : D), fs[i]? = some f → ds[i]? = some d → f.offset = off + D.sizes (ds.take i) ∧ P.cellsOf f.type = d.size
  | [], [], off, _ => ⟨rfl, fun i f d h => by simp at h⟩
  | f :: fs, d :: ds, off, h => by
    obtain ⟨h1, h2, h3⟩ := h
    obtain ⟨k1, k2⟩ := partsOk_fill P fs ds _ h3
    refine ⟨by simp [k1], fun i f' d' hf hd => ?_⟩
    cases i with
    | zero =>
      simp at hf hd
      subst hf hd
      exact ⟨by simp [D.sizes, h1], h2⟩
    | succ i =>
      obtain ⟨m1, m2⟩ := k2 i f' d' (by simpa using hf) (by simpa using hd)
      refine ⟨?_, m2⟩
      simp only [List.take_succ_cons, D.sizes]
      omega
  | [], _ :: _, _, h => h.elim
  | _ :: _, [], _, h => h.elim
end Go.Proofs.Ytpggfnggffedlaa.Ae

namespace Go.Proofs.Ytpggfnggffedlaa.Ae
open Go Go.RowKit
variable {P : Program} {N : NR} {F0 : Nat → Prop} {M0 : Nat → Nat → Prop} {w0 : World} {hv : Nat → Value} {st : St} {a : Act} {w : World} {o : Oper} {next : Act → World → Prop} {Q : Exit → Act → World → Prop}
theorem foldl_set (off : Nat) : ∀ (vs : List Value) (j : Nat) (cs : List Value), off + j + vs.length ≤ cs.length →
    (vs.zipIdx j).foldl (fun (cs : Array Value) (c : Value × Nat) => cs.setIfInBounds (off + c.2) c.1) cs.toArray = (cs.take (off + j) ++ vs ++ cs.drop (off + j + vs.length)).toArray
  | [], j, cs, h => by simp
  | v :: vs, j, cs, h => by
    simp only [List.zipIdx_cons, List.foldl_cons]
    simp only [List.length_cons] at h
    rw [List.setIfInBounds_toArray, foldl_set off vs (j + 1) (cs.set (off + j) v) (by simp; omega)]
    congr 1
    have hlt : off + j < cs.length := by omega
    rw [List.take_set, List.drop_set_of_lt (by omega)]
    have e1 : (cs.take (off + (j + 1))).set (off + j) v = cs.take (off + j) ++ [v] := by
      rw [show off + (j + 1) = (off + j) + 1 by omega, List.take_succ_eq_append_getElem hlt]
      rw [List.set_append_right _ _ (by simp; omega)]
      simp [Nat.min_eq_left (by omega : off + j ≤ cs.length)]
    rw [e1]
    simp only [List.append_assoc, List.singleton_append, List.length_cons]
    rw [show off + (j + 1) + vs.length = off + j + (vs.length + 1) by omega]
def cellsSum : List Value → Nat
  | [] => 0
  | v :: vs => v.cells.size + cellsSum vs
theorem fill_parts (place : Nat → Option (Nat × Nat)) : ∀ (L : List (Nat × Value)) (k : Nat) (don rest : List Value), L.map (·.1) = List.range' k L.length →
    (∀ (i : Nat) (p : Nat × Value), L[i]? = some p → place (k + i) = some (don.length + cellsSum ((L.map (·.2)).take i), p.2.cells.size)) → rest.length = cellsSum (L.map (·.2)) →
    Instr.fill place (don ++ rest).toArray L = some (don ++ (L.map (·.2)).flatMap (·.cells.toList)).toArray
  | [], k, don, rest, _, _, hr => by
    simp only [List.map_nil, cellsSum] at hr
    simp [Instr.fill, List.eq_nil_of_length_eq_zero hr]
  | (i, v) :: L, k, don, rest, hm, hp, hr => by
    simp only [List.map_cons, List.length_cons, List.range'_succ, List.cons.injEq] at hm
    obtain ⟨rfl, hm⟩ := hm
    have h0 := hp 0 (i, v) rfl
    simp only [Nat.add_zero, List.take_zero, cellsSum] at h0
    simp only [List.map_cons, cellsSum] at hr
    simp only [Instr.fill, h0]
    have hsz : ¬ ((v.cells.size ≠ v.cells.size || don.length + v.cells.size > (don ++ rest).toArray.size) = true) := by
      simp
      omega
    rw [if_neg hsz]
    have hf : v.cells.zipIdx.foldl (fun cs (x : Value × Nat) => match x with | (c, j) => cs.setIfInBounds (don.length + j) c) (don ++ rest).toArray = ((don ++ v.cells.toList) ++ rest.drop v.cells.size).toArray := by
      rw [← Array.foldl_toList, Array.toList_zipIdx]
      have := foldl_set don.length v.cells.toList 0 (don ++ rest) (by simp; omega)
      simp only [Nat.add_zero, List.take_left, Array.length_toList] at this
      rw [List.drop_length_add_append] at this
      exact this
    rw [hf, fill_parts place L (i + 1) (don ++ v.cells.toList) (rest.drop v.cells.size) hm (fun j p hj => ?_) (by simp; omega)]
    · simp
    · have := hp (j + 1) p (by simpa using hj)
      rw [show i + 1 + j = i + (j + 1) by omega, this]
      simp [cellsSum, Nat.add_assoc]
theorem mapM_places : ∀ (fs : List Field), (∀ f ∈ fs, (P.info? f.type).isSome = true) → fs.mapM (fun f => (P.info? f.type).map fun i => (f.offset, i.size)) = some (fs.map fun f => (f.offset, P.cellsOf f.type))
  | [], _ => rfl
  | f :: fs, h => by
    obtain ⟨i, hi⟩ := Option.isSome_iff_exists.1 (h f (by simp))
    simp [List.mapM_cons, hi, mapM_places fs (fun g hg => h g (by simp [hg])), cellsOf_info hi]
theorem repVs_sum {F : Nat → Prop} : ∀ (ds : List D) (vs : List Value), RepVs N F w ds vs → ∀ n, cellsSum (vs.take n) = D.sizes (ds.take n)
  | [], [], _, n => by simp [cellsSum, D.sizes]
  | d :: ds, v :: vs, h, 0 => by simp [cellsSum, D.sizes]
  | d :: ds, v :: vs, h, n + 1 => by
    have hd := (h.2 0 d v rfl rfl).cells.len
    simp only [Array.length_toList] at hd
    simp only [List.take_succ_cons, cellsSum, D.sizes, hd]
    rw [repVs_sum ds vs ⟨by simpa using h.1, fun i d' v' h1 h2 => h.2 (i + 1) d' v' (by simpa using h1) (by simpa using h2)⟩ n]
  | [], _ :: _, h, _ => by simpa using h.1
  | _ :: _, [], h, _ => by simpa using h.1
theorem repVs_agg {F : Nat → Prop} {ds : List D} {vs : List Value} (h : RepVs N F w ds vs) : Rep N F w (.agg ds) (vs.flatMap (·.cells.toList)) := by
  have := Rep.agg (N := N) (F := F) (w := w) (ds := ds) (css := vs.map (·.cells.toList)) (by simp [h.1]) (fun i d cs h1 h2 => by
    simp only [List.getElem?_map, Option.map_eq_some_iff] at h2
    obtain ⟨v, hv, rfl⟩ := h2
    exact (h.2 i d v h1 hv).cells)
  rwa [← List.flatMap_def] at this
theorem partsOk_set (P : Program) : ∀ (fs : List Field) (zs : List D) (off i : Nat) (z d : D), partsOk P fs zs off → zs[i]? = some z → d.size = z.size → partsOk P fs (zs.set i d) off
  | [], [], _, i, z, d, _, h, _ => by simp at h
  | f :: fs, x :: zs, off, 0, z, d, hp, h, hs => by
    simp at h
    subst h
    obtain ⟨h1, h2, h3⟩ := hp
    simp only [List.set_cons_zero, partsOk]
    rw [hs]
    exact ⟨h1, h2, h3⟩
  | f :: fs, x :: zs, off, i + 1, z, d, hp, h, hs => by
    obtain ⟨h1, h2, h3⟩ := hp
    simp only [List.set_cons_succ, partsOk]
    exact ⟨h1, h2, partsOk_set P fs zs _ i z d h3 (by simpa using h) hs⟩
  | [], _ :: _, _, _, _, _, h, _, _ => h.elim
  | _ :: _, [], _, _, _, _, h, _, _ => h.elim
theorem fits_set : ∀ (zs : List D) (i : Nat) (z d : D), zs[i]? = some z → d.size = z.size → ∀ (ks : List Nat) (ds : List D), fits zs ks ds → fits (zs.set i d) ks ds
  | zs, i, z, d, hz, hs, [], [], _ => trivial
  | zs, i, z, d, hz, hs, k :: ks, x :: ds, h => by
    obtain ⟨⟨y, hy, hx⟩, h2⟩ := h
    refine ⟨?_, fits_set zs i z d hz hs ks ds h2⟩
    rw [List.getElem?_set]
    by_cases hik : i = k
    · subst hik
      have hl := (List.getElem?_eq_some_iff.1 hy).1
      rw [hz] at hy
      obtain rfl := Option.some.inj hy
      exact ⟨d, by simp [hl], by rw [hx, hs]⟩
    · exact ⟨y, by simp [hik, hy], hx⟩
  | _, _, _, _, _, _, [], _ :: _, h => h.elim
  | _, _, _, _, _, _, _ :: _, [], h => h.elim
theorem fill_upd {F : Nat → Prop} {fs : List Field} : ∀ (L : List (Nat × Value)) (ds zs : List D) (cs : List Value), partsOk P fs zs 0 → Rep N F w (.agg zs) cs → RepVs N F w ds (L.map (·.2)) → fits zs (L.map (·.1)) ds →
    ∃ cs', Instr.fill (fun i => (fs.map fun f => (f.offset, P.cellsOf f.type))[i]?) cs.toArray L = some (cs' : List Value).toArray ∧ Rep N F w (.agg (putAll zs (L.map (·.1)) ds)) cs'
  | [], ds, zs, cs, _, hr, _, hf => by
    cases ds with
    | nil => exact ⟨cs, rfl, hr⟩
    | cons d ds => exact hf.elim
  | (i, v) :: L, ds, zs, cs, hp, hr, hv, hf => by
    cases ds with
    | nil => exact hf.elim
    | cons d ds =>
      obtain ⟨⟨z, hz, hs⟩, hf⟩ := hf
      have hz : zs[i]? = some z := hz
      have hplen := partsOk_fill P fs zs 0 hp
      have hil := (List.getElem?_eq_some_iff.1 hz).1
      have hfi : i < fs.length := by omega
      have hff := List.getElem?_eq_getElem hfi
      obtain ⟨k1, k2⟩ := hplen.2 i _ _ hff hz
      have hdv : RepV N F w d v := hv.2 0 d v rfl rfl
      have hcl := hdv.cells.len
      simp only [Array.length_toList] at hcl
      have hnav : nav (.agg zs) [i] = some (z, D.sizes (zs.take i) + 0) := by simp only [nav, hz]
      have hu := upd_rep [i] (.agg zs) cs z _ d v.cells.toList hr hnav hdv.cells hs
      obtain ⟨_, m2⟩ := nav_rep [i] (.agg zs) cs z _ hr hnav
      simp only [Nat.add_zero] at hu m2
      have hupd : upd (.agg zs) [i] d = .agg (zs.set i d) := by simp only [upd, hz]
      rw [hupd] at hu
      have ih := fill_upd L ds (zs.set i d) _ (partsOk_set P fs zs 0 i z d hp hz hs) hu ⟨by simpa using hv.1, fun j d' v' h1 h2 => hv.2 (j + 1) d' v' (by simpa using h1) (by simpa using h2)⟩ (fits_set zs i z d hz hs _ _ hf)
      obtain ⟨cs', e1, e2⟩ := ih
      refine ⟨cs', ?_, e2⟩
      rw [← e1]
      simp only [Nat.zero_add] at k1
      have hpl : (fs.map fun f => (f.offset, P.cellsOf f.type))[i]? = some (D.sizes (zs.take i), v.cells.size) := by
        rw [List.getElem?_map, hff, Option.map_some, k1, k2, hcl, hs]
      simp only [Instr.fill, hpl]
      have hsz : ¬ ((v.cells.size ≠ v.cells.size || D.sizes (zs.take i) + v.cells.size > cs.toArray.size) = true) := by
        simp
        omega
      rw [if_neg hsz]
      have hfold : v.cells.zipIdx.foldl (fun cs (x : Value × Nat) => match x with | (c, j) => cs.setIfInBounds (D.sizes (zs.take i) + j) c) cs.toArray = (cs.take (D.sizes (zs.take i)) ++ v.cells.toList ++ cs.drop (D.sizes (zs.take i) + d.size)).toArray := by
        rw [← Array.foldl_toList, Array.toList_zipIdx]
        have := foldl_set (D.sizes (zs.take i)) v.cells.toList 0 cs (by simp; omega)
        simp only [Nat.add_zero, Array.length_toList] at this
        rw [hcl] at this
        exact this
      rw [hfold]
theorem sizes_const {s : Nat} : ∀ {ds : List D}, (∀ d ∈ ds, d.size = s) → ∀ i, i ≤ ds.length → D.sizes (ds.take i) = i * s
  | _, _, 0, _ => by simp [D.sizes]
  | [], _, i + 1, h => by simp at h
  | d :: ds, hs, i + 1, h => by
    rw [List.take_succ_cons]
    unfold D.sizes
    rw [hs d (by simp), sizes_const (fun x hx => hs x (by simp [hx])) i (by simpa using h), Nat.add_mul, Nat.one_mul, Nat.add_comm]
theorem built_ok {F : Nat → Prop} {t : TypeId} {L : List (Nat × Value)} {ds : List D} (hrep : RepVs N F w ds (L.map (·.2))) (hp : (buildA P t (L.map (·.1)) ds).1) : ∃ v, (Instr.build t L.toArray).run P w = .ok v w ∧ RepV N F w (buildA P t (L.map (·.1)) ds).2 v := by
  unfold buildA at hp ⊢
  split at hp
  · rename_i fs hu
    split at hp
    · rename_i hks
      simp only [hks, if_true] at hp ⊢
      obtain ⟨h2, h3, h5, h6⟩ := hp
      obtain ⟨z, hz, hzs⟩ := h5
      obtain ⟨it, hit, hz'⟩ := Option.bind_eq_some_iff.1 hz
      have hLlen : L.length = fs.size := by
        have := congrArg List.length hks
        simpa using this
      have hLf : L.map (·.1) = List.range' 0 L.length := by rw [hks, hLlen, List.range_eq_range']
      have hplen := partsOk_fill P fs.toList ds 0 h3
      have hfill := fill_parts (fun i => (fs.toList.map fun f => (f.offset, P.cellsOf f.type))[i]?) L 0 [] z.cells.toList hLf (fun i p hp => by
        have hi : i < fs.toList.length := by
          have hlt := (List.getElem?_eq_some_iff.1 hp).1
          simp
          omega
        have hf := List.getElem?_eq_getElem hi
        have hi' : i < ds.length := by rw [← hplen.1]; exact hi
        have hdd := List.getElem?_eq_getElem hi'
        obtain ⟨k1, k2⟩ := hplen.2 i _ _ hf hdd
        have hv : (L.map (·.2))[i]? = some p.2 := by rw [List.getElem?_map, hp]; rfl
        have hs := (hrep.2 i _ _ hdd hv).cells.len
        simp only [Array.length_toList] at hs
        rw [repVs_sum ds _ hrep i]
        simp only [Nat.zero_add, List.getElem?_map, hf, Option.map_some, List.length_nil, Option.some.injEq, Prod.mk.injEq]
        exact ⟨by omega, by omega⟩) (by
        have := repVs_sum ds _ hrep ds.length
        rw [List.take_of_length_le (by rw [← hrep.1]; exact Nat.le_refl _), List.take_length] at this
        rw [this]
        simpa using hzs)
      simp only [List.nil_append] at hfill
      have hbuilt : P.built t L.toArray.toList = some ((L.map (·.2)).flatMap (·.cells.toList)).toArray := by
        unfold Program.built
        rw [hit, hu]
        simp only [hz', mapM_places fs.toList h6]
        have e2 : (fun (i : Nat) => (fs.toList.map fun f => (f.offset, P.cellsOf f.type)).toArray[i]?) = fun i => (fs.toList.map fun f => (f.offset, P.cellsOf f.type))[i]? := by
          funext i; simp
        rw [e2]
        rw [← hfill]
      exact ⟨_, run_build (P := P) w t _ _ hbuilt, _, repVs_agg hrep, rfl⟩
    · rename_i hks
      simp only [hks, if_false]
      split at hp
      · rename_i zc hz
        simp only [hz]
        obtain ⟨h3, h4, h5, h6, h7⟩ := hp
        obtain ⟨it, hit, hz'⟩ := Option.bind_eq_some_iff.1 hz
        have hzr : Rep N F w (.agg (zeros P fs.toList zc.toList)) zc.toList := flatD_rep (.agg _) zc.toList h4 h5
        obtain ⟨cs', e1, e2⟩ := fill_upd (P := P) (fs := fs.toList) L ds _ zc.toList h3 hzr hrep h7
        have hbuilt : P.built t L.toArray.toList = some cs'.toArray := by
          unfold Program.built
          rw [hit, hu]
          simp only [hz', mapM_places fs.toList h6, Value.cells]
          have e3 : (fun (i : Nat) => (fs.toList.map fun f => (f.offset, P.cellsOf f.type)).toArray[i]?) = fun i => (fs.toList.map fun f => (f.offset, P.cellsOf f.type))[i]? := by
            funext i; simp
          rw [e3, ← e1]
        exact ⟨_, run_build (P := P) w t _ _ hbuilt, _, e2, rfl⟩
      · exact hp.elim
  · rename_i m e hu
    obtain ⟨hks, h2, h3, ⟨z, hz, hzs⟩, h6⟩ := hp
    obtain ⟨it, hit, hz'⟩ := Option.bind_eq_some_iff.1 hz
    obtain ⟨ie, hie⟩ := Option.isSome_iff_exists.1 h6
    have hLlen : L.length = m := by
      have := congrArg List.length hks
      simpa using this
    have hLf : L.map (·.1) = List.range' 0 L.length := by rw [hks, hLlen, List.range_eq_range']
    have hci : P.cellsOf e = ie.size := cellsOf_info hie
    have hfill := fill_parts (fun i => some (i * ie.size, ie.size)) L 0 [] z.cells.toList hLf (fun i p hp => by
      have hi : i < L.length := (List.getElem?_eq_some_iff.1 hp).1
      have hi' : i < ds.length := by omega
      have hdd := List.getElem?_eq_getElem hi'
      have hv : (L.map (·.2))[i]? = some p.2 := by rw [List.getElem?_map, hp]; rfl
      have hs := (hrep.2 i _ _ hdd hv).cells.len
      simp only [Array.length_toList] at hs
      have hds := h3 _ (List.getElem_mem hi')
      rw [repVs_sum ds _ hrep i, sizes_const (fun d hd => (h3 d hd).trans hci) i (by omega)]
      simp only [Nat.zero_add, List.length_nil, Option.some.injEq, Prod.mk.injEq]
      exact ⟨trivial, by omega⟩) (by
      have := repVs_sum ds _ hrep ds.length
      rw [List.take_of_length_le (by rw [← hrep.1]; exact Nat.le_refl _), List.take_length] at this
      rw [this]
      simpa using hzs)
    simp only [List.nil_append] at hfill
    have hbuilt : P.built t L.toArray.toList = some ((L.map (·.2)).flatMap (·.cells.toList)).toArray := by
      unfold Program.built
      rw [hit, hu]
      simp only [hz', hie]
      rw [← hfill]
    exact ⟨_, run_build (P := P) w t _ _ hbuilt, _, repVs_agg hrep, rfl⟩
  · exact hp.elim
theorem build_run {F : Nat → Prop} {t : TypeId} {parts : Array (Nat × Operand)} {ds : List D} (ho : o.op = .build t parts) (hrep : RepVs N F w ds (parts.toList.map fun p => a.eval p.2)) (hp : (buildA P t (parts.toList.map (·.1)) ds).1) :
    ∃ v, (execOp a.eval o).run P w = .ok (.value v) w ∧ RepV N F w (buildA P t (parts.toList.map (·.1)) ds).2 v := by
  let L : List (Nat × Value) := parts.toList.map fun p => (p.1, a.eval p.2)
  have hLs : L.map (·.2) = parts.toList.map fun p => a.eval p.2 := by simp [L]
  have hLf : L.map (·.1) = parts.toList.map (·.1) := by simp [L]
  rw [← hLs] at hrep
  rw [← hLf] at hp ⊢
  obtain ⟨v, h1, h2⟩ := built_ok (P := P) hrep hp
  refine ⟨v, ?_, h2⟩
  have e : L.toArray = parts.map fun (p : Nat × Operand) => (p.1, a.eval p.2) := by
    apply Array.ext'
    simp [L]
  rw [e] at h1
  simp only [execOp, ho]
  simp only [Sem.run_bind]
  have e2 : (parts.map fun (x : Nat × Operand) => match x with | (i, x) => (i, a.eval x)) = parts.map fun (p : Nat × Operand) => (p.1, a.eval p.2) := rfl
  rw [e2, h1]
  rfl
theorem flat_inv {sz : Nat} {v : Value} : ∀ (css : List (List Value)) (k : Nat), (∀ (i : Nat) (cs : List Value), css[i]? = some cs → cs.length = sz) → css.flatten[k]? = some v → ∃ j i cs, css[j]? = some cs ∧ cs[i]? = some v ∧ k = j * sz + i
  | [], k, _, h => by simp at h
  | c :: css, k, hl, h => by
    have hc := hl 0 c rfl
    rw [List.flatten_cons] at h
    rcases Nat.lt_or_ge k c.length with hk | hk
    · rw [List.getElem?_append_left hk] at h
      exact ⟨0, k, c, rfl, h, by omega⟩
    · rw [List.getElem?_append_right hk] at h
      obtain ⟨j, i, cs, h1, h2, h3⟩ := flat_inv css (k - c.length) (fun i cs hi => hl (i + 1) cs (by simpa using hi)) h
      exact ⟨j + 1, i, cs, by simpa using h1, h2, by rw [Nat.add_mul]; omega⟩
theorem cells_flat {b off sz : Nat} {css : List (List Value)} (h : ∀ (i : Nat) (cs : List Value), css[i]? = some cs → cs.length = sz ∧ Cells w b (off + i * sz) cs) : Cells w b off css.flatten := by
  intro k v hk
  obtain ⟨j, i, cs, h1, h2, rfl⟩ := flat_inv css k (fun i cs hi => (h i cs hi).1) hk
  rw [← Nat.add_assoc]
  exact (h j cs h1).2 i v h2
theorem row_win {F : Nat → Prop} {v : Value} {e : TypeId} {sz : Nat} {xs : List D} {css : List (List Value)} (h1 : w.ownsRow 0 e sz v xs.length css.flatten) (h2 : css.length = xs.length)
    (h3 : ∀ (i : Nat) (d : D) (cs : List Value), xs[i]? = some d → css[i]? = some cs → cs.length = sz ∧ Rep N F w d cs) {lo n : Nat} (hle : lo + n ≤ xs.length) (hn : 0 < n) :
    ∃ b c, v = .slice (some ⟨b, 0, none⟩) xs.length c ∧ Cells w b (lo * sz) ((css.drop lo).take n).flatten := by
  have hl : ∀ (k : Nat) (cs : List Value), css[k]? = some cs → cs.length = sz := fun k cs hk => by
    have hk' : k < xs.length := by have := (List.getElem?_eq_some_iff.1 hk).1; omega
    exact (h3 k xs[k] cs (List.getElem?_eq_getElem hk') hk).1
  obtain ⟨hlen, hown⟩ := h1
  rcases hown with ⟨_, h0⟩ | ⟨g, cap, cur, hv', _, hg, _, _, _, htake⟩
  · omega
  · refine ⟨g, _, hv', cells_flat (sz := sz) (fun i cs hi => ?_)⟩
    rw [List.getElem?_take] at hi
    split at hi
    · rw [List.getElem?_drop] at hi
      refine ⟨hl _ _ hi, fun k v hk => ?_⟩
      have := flat_get (sz := sz) css (lo + i) k _ v hl hi hk
      rw [← htake, List.getElem?_take] at this
      split at this
      · simp only [World.cell?, hg]
        rw [show lo * sz + i * sz + k = (lo + i) * sz + k by rw [Nat.add_mul]]
        simpa using this
      · cases this
    · cases hi
theorem ownsRow_take {v : Value} {e : TypeId} {sz n m c : Nat} {A : Option Addr} {css : List (List Value)} (h1 : w.ownsRow 0 e sz v n css.flatten) (hl : ∀ (k : Nat) (cs : List Value), css[k]? = some cs → cs.length = sz) (hc : css.length = n) (hm : m ≤ n)
    (hv : v = .slice A n c) : w.ownsRow 0 e sz (.slice A m c) m (css.take m).flatten := by
  obtain ⟨hlen, hown⟩ := h1
  have hfl : ∀ (css : List (List Value)), (∀ (k : Nat) (cs : List Value), css[k]? = some cs → cs.length = sz) → css.flatten.length = css.length * sz := by
    intro css
    induction css with
    | nil => intro _; simp
    | cons c css ih =>
      intro hl
      have := hl 0 c rfl
      rw [List.flatten_cons, List.length_append, ih (fun k cs hk => hl (k + 1) cs (by simpa using hk)), this, List.length_cons, Nat.add_mul]
      omega
  have ht : (css.take m).flatten.length = m * sz := by
    rw [hfl]
    · rw [List.length_take, Nat.min_eq_left (by omega)]
    · intro k cs hk
      rw [List.getElem?_take] at hk
      split at hk
      · exact hl k cs hk
      · cases hk
  refine ⟨ht, ?_⟩
  rcases hown with ⟨hv', h0⟩ | ⟨g, cap, cur, hv', hb, hg, hnc, hcm, hcs, htake⟩
  · rw [hv] at hv'
    injection hv' with e1 e2 e3
    left
    have : m = 0 := by omega
    subst e1 this
    exact ⟨by rw [e3], rfl⟩
  · rw [hv] at hv'
    injection hv' with e1 e2 e3
    subst e1 e3
    refine .inr ⟨g, c, cur, rfl, hb, hg, by omega, hcm, hcs, ?_⟩
    have hle : m * sz ≤ n * sz := Nat.mul_le_mul_right _ hm
    have e1 : cur.toList.take (m * sz) = (css.flatten).take (m * sz) := by rw [← htake, List.take_take, Nat.min_eq_left hle]
    rw [e1]
    have e2 : css.flatten = (css.take m).flatten ++ (css.drop m).flatten := by rw [← List.flatten_append, List.take_append_drop]
    rw [e2, ← ht, List.take_left]
theorem elems_src (h : Rel N F0 M0 w0 hv st a w) {x : Operand} {ys : List D} (he : elems st (ev st x) = some ys) {sz : Nat} (hsz : ∀ y ∈ ys, y.size = sz) :
    ∃ (A : Option Addr) (c : Nat) (css : List (List Value)), a.eval x = .slice A ys.length c ∧ css.length = ys.length ∧ (∀ (i : Nat) (d : D) (cs : List Value), ys[i]? = some d → css[i]? = some cs → cs.length = sz ∧ Rep N (Fr F0 w0 hv st w) w d cs) ∧
      (0 < ys.length → ∃ b off, A = some ⟨b, off, none⟩ ∧ Cells w b off css.flatten) := by
  have hr := ev_rep h x
  unfold elems at he
  split at he
  · rename_i sz' ys' e1
    obtain rfl := Option.some.inj he
    rw [e1] at hr
    obtain ⟨cs, hx, hv'⟩ := hr
    cases hx with
    | sl A c es hc hm ha hels =>
      have hv' : a.eval x = .slice A ys'.length c := hv'
      have hlen : ∀ (i : Nat) (d : D), ys'[i]? = some d → (es i).length = sz := fun i d hi => by
        rw [(hels i d hi).len]; exact hsz d (List.mem_of_getElem? hi)
      refine ⟨A, c, (List.range ys'.length).map es, hv', by simp, fun i d cs h1 h2 => ?_, fun hp => ?_⟩
      · have hi := (List.getElem?_eq_some_iff.1 h1).1
        rw [List.getElem?_map, List.getElem?_range hi] at h2
        obtain rfl := Option.some.inj h2
        exact ⟨hlen i d h1, hels i d h1⟩
      · obtain ⟨b, off, e2, hb, hcs⟩ := ha hp
        refine ⟨b, off, e2, cells_flat (sz := sz) (fun i cs h2 => ?_)⟩
        have hi : i < ys'.length := by
          have := (List.getElem?_eq_some_iff.1 h2).1
          simpa using this
        rw [List.getElem?_map, List.getElem?_range hi] at h2
        obtain rfl := Option.some.inj h2
        have hd := List.getElem?_eq_getElem hi
        have hl := hlen i _ hd
        obtain ⟨g1, g2⟩ := hcs i hi
        refine ⟨hl, ?_⟩
        rw [← g1, hl] at g2
        exact g2
  · rename_i e1
    obtain rfl := Option.some.inj he
    rw [e1] at hr
    obtain ⟨hv', _⟩ := RepV.lit hr
    exact ⟨none, 0, [], hv', rfl, fun i d cs h1 => by simp at h1, fun hp => by simp at hp⟩
  · rename_i ob e1
    split at he
    · rename_i sz' e' ys' hrow
      obtain rfl := Option.some.inj he
      rw [e1] at hr
      have hv' := hr ⟨_, hrow⟩
      obtain ⟨css, h1, h2, h3⟩ := row_rep h hrow
      have hown := h1.2
      have h3' : ∀ (i : Nat) (d : D) (cs : List Value), ys'[i]? = some d → css[i]? = some cs → cs.length = sz ∧ Rep N (Fr F0 w0 hv st w) w d cs := fun i d cs g1 g2 => by
        have := (h3 i d cs g1 g2).2
        exact ⟨by rw [this.len]; exact hsz d (List.mem_of_getElem? g1), this⟩
      rcases hown with ⟨e2, h0⟩ | ⟨g, cap, cur, e2, _⟩
      · rw [e2] at hv'
        exact ⟨none, 0, css, by rw [hv', h0], h2, h3', fun hp => by omega⟩
      · rw [e2] at hv'
        refine ⟨_, _, css, hv', h2, h3', fun hp => ?_⟩
        obtain ⟨b, c, e3, hc⟩ := row_win h1 h2 h3 (lo := 0) (n := ys'.length) (by omega) hp
        rw [e2] at e3
        injection e3 with e4 _ _
        rw [List.drop_zero, List.take_of_length_le (by omega), Nat.zero_mul] at hc
        exact ⟨b, 0, e4, hc⟩
    · cases he
  · rename_i ob lo n e1
    split at he
    · rename_i sz' e' ys' hrow
      split at he
      · rename_i hle
        obtain rfl := Option.some.inj he
        rw [e1] at hr
        obtain ⟨A, N', c, A', hv1, hv2, hA⟩ := hr _ _ _ hrow
        obtain ⟨css, h1, h2, h3⟩ := row_rep h hrow
        have hlen : ((ys'.drop lo).take n).length = n := by rw [List.length_take, List.length_drop]; omega
        refine ⟨A', c - lo, (css.drop lo).take n, by rw [hv2, hlen], by rw [hlen, List.length_take, List.length_drop]; omega, fun i d cs g1 g2 => ?_, fun hp => ?_⟩
        · have hmem := List.mem_of_getElem? g1
          rw [List.getElem?_take] at g1 g2
          split at g1
          · rename_i hi
            rw [if_pos hi] at g2
            rw [List.getElem?_drop] at g1 g2
            have := (h3 _ d cs g1 g2).2
            exact ⟨by rw [this.len]; exact hsz d hmem, this⟩
          · cases g1
        · rw [hlen] at hp
          obtain ⟨b, c', e3, hc⟩ := row_win h1 h2 h3 hle hp
          rw [hv1] at e3
          injection e3 with e4 _ _
          have hA := hA (.inl hp)
          rw [e4] at hA
          simp only [Option.map_some, add_plain, Nat.zero_add] at hA
          exact ⟨b, lo * sz', hA, hc⟩
      · cases he
    · cases he
  · cases he
end Go.Proofs.Ytpggfnggffedlaa.Ae

namespace Go.Proofs.Ytpggfnggffedlaa.Ae
open Go Go.RowKit
variable {P : Program} {N : NR} {F0 : Nat → Prop} {M0 : Nat → Nat → Prop} {w0 : World} {hv : Nat → Value} {st : St} {a : Act} {w : World} {o : Oper} {next : Act → World → Prop} {Q : Exit → Act → World → Prop}
theorem bytesOf_info {t : TypeId} {i : TypeInfo} (h : P.info? t = some i) : P.bytesOf t = i.bytes := by simp [Program.bytesOf, h]
theorem src_none {size : Nat} {t e : TypeId} (ht : P.underlying t = some (.slice e)) (A : Option Addr) (c : Nat) : Src P size t (.slice A 0 c) 0 [] w where
  kind := .inl ⟨e, ht⟩
  len := by intro w'; simp [Builtin.lenOf]
  cells := by cases A <;> simp [Builtin.firstCells, loadCells, loadCellsFrom]
  cellsD := by cases A <;> simp [Builtin.firstCells, loadCells, loadCellsFrom]
  newsLen := by simp
  one := by simp
theorem append_run {t ty e : TypeId} (ht : P.underlying t = some (.slice e)) (hi : (P.info? e).isSome = true) {sz : Nat} (hs : sz = P.cellsOf e) (hz : ∃ z, (P.info? e).bind (·.zero) = some z ∧ z.cells.size = sz) (h0 : 0 < sz)
    {v : Value} {n m c : Nat} {xs news : List Value} (hown : w.ownsRow 0 e sz v n xs) {A : Option Addr} (hl : news.length = m * sz) (hc : 0 < m → ∃ b off, A = some ⟨b, off, none⟩ ∧ Cells w b off news) (h1 : ∀ u ∈ news, u.oneCell' = true)
    (hb : (n + m) * P.bytesOf e ≤ 140737488355328) (hm : n + m ≤ maxLen) :
    ∃ v' w', (Builtin.append_ #[t, t] ty #[v, .slice A m c]).run P w = .ok v' w' ∧ w'.ownsRow 0 e sz v' (n + m) (xs ++ news) ∧ w.grownBy w' v.ownBlock ∧ (v'.ownBlock = v.ownBlock ∨ v'.ownBlock = some w.heap.size) := by
  obtain ⟨i, hi'⟩ := Option.isSome_iff_exists.1 hi
  obtain ⟨z, hz1, hz2⟩ := hz
  have hz' : i.zero = some z := by rw [hi'] at hz1; exact hz1
  rw [cellsOf_info hi'] at hs
  rw [bytesOf_info hi'] at hb
  rcases Nat.eq_zero_or_pos m with hm0 | hm0
  · subst hm0
    have hnil : news = [] := List.eq_nil_of_length_eq_zero (by simpa using hl)
    subst hnil
    have hsl : ∃ B n' c', v = .slice B n' c' ∧ n' ≤ c' := by
      rcases hown.2 with ⟨e1, _⟩ | ⟨g, cap, cur, e1, _, _, h2, _⟩
      · exact ⟨_, _, _, e1, Nat.le_refl _⟩
      · exact ⟨_, _, _, e1, h2⟩
    obtain ⟨B, n', c', rfl, hle⟩ := hsl
    refine ⟨_, _, run_append_nothing w t t ty e i ht hi' B n' c' hle _ (src_none ht A c), ?_, ⟨rfl, rfl, rfl, Nat.le_refl _, fun _ _ _ => rfl⟩, .inl rfl⟩
    simpa using hown
  · obtain ⟨b, off, rfl, hcells⟩ := hc hm0
    obtain ⟨v', w', r1, r2, r3, _, r5⟩ := run_append_own_at (P := P) w 0 t ty e i z sz i.bytes ht hi' hz' hs.symm rfl hz2 h0 v n xs hown ⟨b, off, none⟩ m c news hl (fun j u hj => by rw [add_plain]; exact hcells j u hj) h1 hm hb (Nat.zero_le _)
    exact ⟨v', w', r1, r2, r3, r5⟩
theorem append_new {t ty e : TypeId} (ht : P.underlying t = some (.slice e)) (hi : (P.info? e).isSome = true) {sz : Nat} (hs : sz = P.cellsOf e) (hz : ∃ z, (P.info? e).bind (·.zero) = some z ∧ z.cells.size = sz)
    {b n m c : Nat} {xs news : List Value} (hx : xs.length = n * sz) (hxc : Cells w b 0 xs) {A : Option Addr} (hl : news.length = m * sz) (hc : 0 < m → ∃ b off, A = some ⟨b, off, none⟩ ∧ Cells w b off news) (hm0 : 0 < m)
    (hb : (n + m) * P.bytesOf e ≤ 140737488355328) (hm : n + m ≤ maxLen) :
    ∃ v' w', (Builtin.append_ #[t, t] ty #[.slice (some ⟨b, 0, none⟩) n n, .slice A m c]).run P w = .ok v' w' ∧ w'.ownsRow 0 e sz v' (n + m) (xs ++ news) ∧ w.grownBy w' none ∧ v'.ownBlock = some w.heap.size := by
  obtain ⟨i, hi'⟩ := Option.isSome_iff_exists.1 hi
  obtain ⟨z, hz1, hz2⟩ := hz
  have hz' : i.zero = some z := by rw [hi'] at hz1; exact hz1
  rw [cellsOf_info hi'] at hs
  rw [bytesOf_info hi'] at hb
  obtain ⟨b', off, rfl, hcells⟩ := hc hm0
  subst hs
  have hlen : (xs ++ news).length = (n + m) * i.size := by rw [List.length_append, hx, hl, Nat.add_mul]
  have hsmall : n + m ≤ 9223372036854775807 := by simp only [maxLen] at hm; omega
  have hr := run_append_grow (P := P) w t ty e i z ht hi' hz' ⟨b, 0, none⟩ n n xs hx (fun j u hj => by rw [add_plain]; exact hxc j u hj) ⟨b', off, none⟩ m c news hl (fun j u hj => by rw [add_plain]; exact hcells j u hj) (by omega) (by omega) (growslice_fits (by omega) hb)
  have hge := grownCap_ge w (n + m) n e
  have hcm : grownCap w (n + m) n e ≤ maxLen := grownCap_le_maxLen w (n + m) n e hm
  refine ⟨_, _, hr, ⟨hlen, .inr ⟨w.heap.size, _, _, rfl, Nat.zero_le _, heap_alloc_new w.drew _, hge, hcm, ?_, ?_⟩⟩, ⟨rfl, rfl, rfl, by simp, fun k hk _ => heap_alloc_old w.drew _ hk⟩, rfl⟩
  · simp only [Array.size_append, List.size_toArray, size_zeroCells, hz2, hx, hl, ← Nat.add_mul]
    congr 1
    omega
  · simp only [Array.toList_append, List.append_assoc]
    rw [← List.append_assoc, ← hlen]
    exact List.take_left
theorem arr_src (h : Rel N F0 M0 w0 hv st a w) {x : Operand} {sz : Nat} {xs : List D} (he : arrEl st (ev st x) = some (sz, xs)) :
    ∃ (b : Nat) (css : List (List Value)), a.eval x = .slice (some ⟨b, 0, none⟩) xs.length xs.length ∧ css.length = xs.length ∧ (∀ (i : Nat) (d : D) (cs : List Value), xs[i]? = some d → css[i]? = some cs → cs.length = sz ∧ Rep N (Fr F0 w0 hv st w) w d cs) ∧ Cells w b 0 css.flatten := by
  have hr := ev_rep h x
  unfold arrEl at he
  split at he
  · rename_i o sz' n e1
    rw [e1] at hr
    split at he
    · rename_i sz2 xs2 o2 hd
      simp only [Option.some.injEq, Prod.mk.injEq] at he
      obtain ⟨rfl, rfl⟩ := he
      simp only [asData] at hd
      split at hd
      · rename_i ds hb
        split at hd
        · rename_i hcond
          obtain ⟨hn, _, hsz⟩ := hcond
          simp only [Option.some.injEq, Prod.mk.injEq, D.sl.injEq] at hd
          obtain ⟨⟨rfl, rfl⟩, _⟩ := hd
          obtain ⟨b, g1, g2⟩ := hr
          have g3 := g2 ⟨_, hb⟩
          obtain ⟨b', cs, t, k1, k2, k3⟩ := box_rep h hb
          rw [g3] at k1
          injection k1 with k1
          injection k1 with k1
          injection k1 with k1 _ _
          subst k1
          generalize hcs : cs.toList = L at k3
          cases k3 with
          | agg hl hels =>
            rename_i css
            refine ⟨b, css, by rw [g1, hn], hl, fun i d c' q1 q2 => ?_, ?_⟩
            · have := hels i d c' q1 q2
              exact ⟨by rw [this.len]; exact hsz d (List.mem_of_getElem? q1), this⟩
            · rw [← hcs]
              exact cells_of_block k2
        · cases hd
      · cases hd
    · cases he
  · cases he
theorem own_blk {base : Nat} {e : TypeId} {sz n : Nat} {v : Value} {xs : List Value} (h : w.ownsRow base e sz v n xs) : blkOf v = v.ownBlock := by
  rcases h.2 with ⟨rfl, _⟩ | ⟨g, cap, cur, rfl, _⟩ <;> rfl
theorem flatten_length {sz : Nat} : ∀ (css : List (List Value)), (∀ (k : Nat) (cs : List Value), css[k]? = some cs → cs.length = sz) → css.flatten.length = css.length * sz
  | [], _ => by simp
  | c :: css, hl => by
    have := hl 0 c rfl
    rw [List.flatten_cons, List.length_append, flatten_length css (fun k cs hk => hl (k + 1) cs (by simpa using hk)), this, List.length_cons, Nat.add_mul]
    omega
theorem onto_row (h : Rel N F0 M0 w0 hv st a w) {s : Operand} {ob sz : Nat} {e : TypeId} {xs : List D} (he : onto st (ev st s) = some (ob, sz, e, xs)) :
    (∃ ys, st.obj ob = some (.row sz e ys)) ∧ ∃ css, w.ownsRow 0 e sz (a.eval s) xs.length (css : List (List Value)).flatten ∧ css.length = xs.length ∧ blkOf (a.eval s) = blkOf (hv ob) ∧
      ∀ (i : Nat) (d : D) (cs : List Value), xs[i]? = some d → css[i]? = some cs → cs.length = sz ∧ Rep N (Fr F0 w0 hv st w) w d cs := by
  have hr := ev_rep h s
  unfold onto at he
  split at he
  · rename_i ob' e1
    split at he
    · rename_i sz' e' xs' ho
      simp only [Option.some.injEq, Prod.mk.injEq] at he
      obtain ⟨rfl, rfl, rfl, rfl⟩ := he
      rw [e1] at hr
      have hrow : st.row? ob' = some (sz', e', xs') := by unfold St.row?; rw [ho]
      have hv' := hr ⟨_, hrow⟩
      obtain ⟨css, h1, h2, h3⟩ := row_rep h hrow
      rw [hv']
      exact ⟨⟨_, ho⟩, css, h1, h2, rfl, h3⟩
    · cases he
  · rename_i ob' n e1
    split at he
    · rename_i sz' e' xs' ho
      split at he
      · rename_i hle
        simp only [Option.some.injEq, Prod.mk.injEq] at he
        obtain ⟨rfl, rfl, rfl, rfl⟩ := he
        rw [e1] at hr
        have hrow : st.row? ob' = some (sz', e', xs') := by unfold St.row?; rw [ho]
        obtain ⟨A, N', c, A', hv1, hv2, hA⟩ := hr _ _ _ hrow
        obtain ⟨css, h1, h2, h3⟩ := row_rep h hrow
        have hl : ∀ (k : Nat) (cs : List Value), css[k]? = some cs → cs.length = sz' := fun k cs hk => by
          have hk' : k < xs'.length := by have := (List.getElem?_eq_some_iff.1 hk).1; omega
          exact (h3 k xs'[k] cs (List.getElem?_eq_getElem hk') hk).1
        have hN : N' = xs'.length := by
          rcases h1.2 with ⟨e2, h0⟩ | ⟨g, cap, cur, e2, _⟩
          · rw [hv1] at e2; injection e2 with _ e3 _; rw [h0, e3]
          · rw [hv1] at e2; injection e2
        have hAA : A' = A := by
          rw [hA (.inr rfl)]
          rcases h1.2 with ⟨e2, h0⟩ | ⟨g, cap, cur, e2, _⟩
          · rw [hv1] at e2; injection e2 with e3 _ _; rw [e3]; rfl
          · rw [hv1] at e2; injection e2 with e3 _ _; rw [e3]; simp [add_plain]
        subst hAA hN
        have hlen : (xs'.take n).length = n := by rw [List.length_take]; omega
        refine ⟨⟨_, ho⟩, css.take n, ?_, by rw [List.length_take, hlen]; omega, ?_, fun i d cs g1 g2 => ?_⟩
        · rw [hv2, hlen]
          exact ownsRow_take h1 hl h2 hle hv1
        · rw [hv2, hv1]
          cases A' <;> rfl
        · rw [List.getElem?_take] at g1 g2
          split at g1
          · rename_i hi; rw [if_pos hi] at g2; exact h3 i d cs g1 g2
          · cases g1
      · cases he
    · cases he
  · cases he
theorem rep_flat_one {F : Nat → Prop} {xs : List D} {css : List (List Value)} (hl : css.length = xs.length) (h : ∀ (i : Nat) (d : D) (cs : List Value), xs[i]? = some d → css[i]? = some cs → Rep N F w d cs) : ∀ u ∈ css.flatten, u.oneCell' = true := by
  intro u hu
  obtain ⟨cs, hcs, hu⟩ := List.mem_flatten.1 hu
  obtain ⟨i, hi⟩ := List.getElem?_of_mem hcs
  have hlt : i < xs.length := by have := (List.getElem?_eq_some_iff.1 hi).1; omega
  exact (h i xs[i] cs (List.getElem?_eq_getElem hlt) hi).one u hu
theorem Fr_live (h : Rel N F0 M0 w0 hv st a w) {s : Nat} {ob : Ob} (hs : st.obj s = some ob) (hl : ob.live = true) {k : Nat} (hb : blkOf (hv s) = some k) : ¬ Fr F0 w0 hv st w k := by
  rintro (hk | ⟨_, _, g⟩)
  · have h1 := h.lt0 k hk
    have h2 := h.own s ob k hs hb
    cases ob <;> first | exact h1.2 ⟨_, h2⟩ | (simp only at h2; omega)
  · exact g s ob hs hl hb
theorem append_sound (h : Rel N F0 M0 w0 hv st a w) (hno : ∀ s, o.dst = some s → noref st s) {t : TypeId} {s x : Operand} {args : Array Operand} {ts : Array TypeId} (ho : o.op = .call { callee := .builtin .append, args := args, argTypes := ts })
    (hargs : args.toList = [s, x]) (hts : ts.toList = [t, t]) (hp : (appendA P st o.dst t (ev st s) (ev st x)).pre)
    (hn : ∀ hv' a' w', Rel N F0 M0 w0 hv' (st.apply o.dst (appendA P st o.dst t (ev st s) (ev st x))) a' w' → next a' w') : Oper.wp P o a w next Q := by
  have ha' : args = #[s, x] := by rw [← Array.toArray_toList (xs := args), hargs]
  have ht' : ts = #[t, t] := by rw [← Array.toArray_toList (xs := ts), hts]
  subst ha' ht'
  have hrun : ∀ v' w', (Builtin.append_ #[t, t] o.type #[a.eval s, a.eval x]).run P w = .ok v' w' → (execOp a.eval o).run P w = .ok (.value v') w' := by
    intro v' w' hr
    simp [execOp, ho, resolve, invoke, builtin, hr]
  unfold appendA at hp hn
  split at hp
  · rename_i e k ys hu hd hel
    simp only [hu, hd, hel] at hn
    have hnk := hno k hd
    split at hp
    · rename_i es
      simp only [es] at hn
      obtain ⟨p1, p2, p3, p4, p5, p6, p7, p8⟩ := hp
      obtain ⟨A, c, css, hx, hcl, hcr, hcc⟩ := elems_src h hel p4
      obtain ⟨vs, _⟩ := ev_lit h es
      have hfl := flatten_length (sz := P.cellsOf e) css (fun k cs hk => by
        have hk' : k < ys.length := by have := (List.getElem?_eq_some_iff.1 hk).1; omega
        exact (hcr k ys[k] cs (List.getElem?_eq_getElem hk') hk).1)
      rw [hcl] at hfl
      obtain ⟨v', w', r1, r2, r3, r4⟩ := append_run (P := P) (ty := o.type) hu p2 rfl p3 p1 (v := .slice none 0 0) (n := 0) (c := c) (World.ownsRow_nil w 0 e _) hfl hcc (rep_flat_one hcl (fun i d cs g1 g2 => (hcr i d cs g1 g2).2)) (by simpa using p5) (by simpa using p6)
      rw [← vs, ← hx] at r1
      simp only [Nat.zero_add, List.nil_append] at r2
      have hbel : Frame0 (fun _ => False) w w' := ⟨r3.os, r3.tape, r3.output, r3.size, fun k hk _ => r3.block k hk (by simp [Value.ownBlock])⟩
      have hF : ∀ b, Fr F0 w0 hv st w b → Fr F0 w0 hv st w b ∧ w'.heap[b]? = w.heap[b]? := fun b hb => ⟨hb, hbel.block b (Fr_lt h b hb) (fun h => h)⟩
      obtain ⟨hv', hrel⟩ := h.new (s := k) (s0 := none) (ob := .row (P.cellsOf e) e ys) (v := v') (x := .row k) (M1 := fun _ => False) p7 p8 hnk hbel (fun _ h => h.elim) (fun k' hk => by
        rw [own_blk r2] at hk
        rcases r4 with g | g
        · rw [g] at hk; cases hk
        · rw [g] at hk; injection hk with hk; left; omega) ⟨css, r2, hcl, fun i d cs g1 g2 => ⟨(hcr i d cs g1 g2).1, (hcr i d cs g1 g2).2.mono hF⟩⟩ trivial (.inr (.inl rfl))
      refine wp_value (hrun _ _ r1) (hn hv' _ _ ?_)
      rw [hd]
      exact hrel
    · rename_i xs' es
      have es' : ∀ s', ev st s = s' → (∀ (h : s' = .dat (.lit (.slice none 0 0))), False) := by
        intro s' h1 h2
        exact es (h1.trans h2)
      split at hp
      · rename_i ob sz e' xs hon
        obtain ⟨rfl, rfl, p1, p2, p3, p4, p5, p6, p7, p8⟩ := hp
        obtain ⟨⟨xsAll, hobj⟩, css0, hown0, hc0, hblk0, hcr0⟩ := onto_row h hon
        obtain ⟨A, c, css, hx, hcl, hcr, hcc⟩ := elems_src h hel p4
        have hfl := flatten_length (sz := P.cellsOf e') css (fun k cs hk => by
          have hk' : k < ys.length := by have := (List.getElem?_eq_some_iff.1 hk).1; omega
          exact (hcr k ys[k] cs (List.getElem?_eq_getElem hk') hk).1)
        rw [hcl] at hfl
        obtain ⟨v', w', r1, r2, r3, r4⟩ := append_run (P := P) (ty := o.type) hu p2 rfl p3 p1 (c := c) hown0 hfl hcc (rep_flat_one hcl (fun i d cs g1 g2 => (hcr i d cs g1 g2).2)) p5 p6
        rw [← hx] at r1
        have hM1 : ∀ k', blkOf (hv ob) = some k' → ¬ Fr F0 w0 hv st w k' := fun k' hk => Fr_live h hobj rfl hk
        have hbel : Frame0 (fun k' => blkOf (hv ob) = some k') w w' := ⟨r3.os, r3.tape, r3.output, r3.size, fun k hk hn => r3.block k hk (fun e => hn (by rw [← hblk0, own_blk hown0, ← e]))⟩
        have hF : ∀ b, Fr F0 w0 hv st w b → Fr F0 w0 hv st w b ∧ w'.heap[b]? = w.heap[b]? := fun b hb => ⟨hb, hbel.block b (Fr_lt h b hb) (fun hm => hM1 b hm hb)⟩
        rw [← List.flatten_append, ← List.length_append] at r2
        obtain ⟨hv', hrel⟩ := h.new (s := k) (s0 := some ob) (ob := .row (P.cellsOf e') e' (xs ++ ys)) (v := v') (x := .row k) (M1 := fun k' => blkOf (hv ob) = some k') p7 p8 hnk hbel (fun k' hk => ⟨ob, _, rfl, hobj, rfl, trivial, hk⟩) (fun k' hk => by
          rw [own_blk r2] at hk
          rcases r4 with g | g
          · right
            rw [← hblk0, own_blk hown0, ← g]
            exact hk
          · rw [g] at hk; injection hk with hk; left; omega) ⟨css0 ++ css, r2, by rw [List.length_append, List.length_append, hc0, hcl], fun i d cs g1 g2 => by
            rw [List.getElem?_append] at g1 g2
            rw [hc0] at g2
            split at g1
            · rename_i hi
              rw [if_pos hi] at g2
              exact ⟨(hcr0 i d cs g1 g2).1, (hcr0 i d cs g1 g2).2.mono hF⟩
            · rename_i hi
              rw [if_neg hi] at g2
              exact ⟨(hcr _ d cs g1 g2).1, (hcr _ d cs g1 g2).2.mono hF⟩⟩ trivial (.inr (.inl rfl))
        refine wp_value (hrun _ _ r1) (hn hv' _ _ ?_)
        rw [hd]
        simp only [hon]
        exact hrel
      · rename_i hon
        split at hp
        · rename_i sz xs harr
          obtain ⟨p0, rfl, p1, p2, p3, p4, p5, p6, p7, p8⟩ := hp
          obtain ⟨b0, css0, hs0, hc0, hcr0, hcel0⟩ := arr_src h harr
          obtain ⟨A, c, css, hx, hcl, hcr, hcc⟩ := elems_src h hel p4
          have hfl := flatten_length (sz := P.cellsOf e) css (fun k cs hk => by
            have hk' : k < ys.length := by have := (List.getElem?_eq_some_iff.1 hk).1; omega
            exact (hcr k ys[k] cs (List.getElem?_eq_getElem hk') hk).1)
          rw [hcl] at hfl
          have hfl0 := flatten_length (sz := P.cellsOf e) css0 (fun k cs hk => by
            have hk' : k < xs.length := by have := (List.getElem?_eq_some_iff.1 hk).1; omega
            exact (hcr0 k xs[k] cs (List.getElem?_eq_getElem hk') hk).1)
          rw [hc0] at hfl0
          obtain ⟨v', w', r1, r2, r3, r4⟩ := append_new (P := P) (ty := o.type) hu p2 rfl p3 (c := c) hfl0 hcel0 hfl hcc p0 p5 p6
          rw [← hx, ← hs0] at r1
          have hbel : Frame0 (fun _ => False) w w' := ⟨r3.os, r3.tape, r3.output, r3.size, fun k hk _ => r3.block k hk (by simp)⟩
          have hF : ∀ b, Fr F0 w0 hv st w b → Fr F0 w0 hv st w b ∧ w'.heap[b]? = w.heap[b]? := fun b hb => ⟨hb, hbel.block b (Fr_lt h b hb) (fun h => h)⟩
          rw [← List.flatten_append, ← List.length_append] at r2
          obtain ⟨hv', hrel⟩ := h.new (s := k) (s0 := none) (ob := .row (P.cellsOf e) e (xs ++ ys)) (v := v') (x := .row k) (M1 := fun _ => False) p7 p8 hnk hbel (fun _ h => h.elim) (fun k' hk => by
            rw [own_blk r2, r4] at hk
            injection hk with hk
            left; omega) ⟨css0 ++ css, r2, by rw [List.length_append, List.length_append, hc0, hcl], fun i d cs g1 g2 => by
              rw [List.getElem?_append] at g1 g2
              rw [hc0] at g2
              split at g1
              · rename_i hi
                rw [if_pos hi] at g2
                exact ⟨(hcr0 i d cs g1 g2).1, (hcr0 i d cs g1 g2).2.mono hF⟩
              · rename_i hi
                rw [if_neg hi] at g2
                exact ⟨(hcr _ d cs g1 g2).1, (hcr _ d cs g1 g2).2.mono hF⟩⟩ trivial (.inr (.inl rfl))
          refine wp_value (hrun _ _ r1) (hn hv' _ _ ?_)
          rw [hd]
          simp only [hon, harr]
          exact hrel
        · exact hp.elim
  · exact hp.elim
end Go.Proofs.Ytpggfnggffedlaa.Ae

namespace Go.Proofs.Ytpggfnggffedlaa.Ae
open Go Go.RowKit
variable {P : Program} {N : NR} {F0 : Nat → Prop} {M0 : Nat → Nat → Prop} {w0 : World} {hv : Nat → Value} {st : St} {a : Act} {w : World} {o : Oper} {next : Act → World → Prop} {Q : Exit → Act → World → Prop}
theorem elem_of {t e : TypeId} (h : P.underlying t = some (.slice e)) : P.underlying t = some (.slice (P.elem t)) := by
  have : P.elem t = e := by simp [Program.elem, h]
  rw [this]; exact h
theorem slice_run {t e : TypeId} (ht : P.underlying t = some (.slice e)) (hi : (P.info? e).isSome = true) {A : Option Addr} {n c : Nat} (lo hi' : Option Value) {l h : Int} (hl : (lo = none ∧ l = 0) ∨ ∃ k, lo = some (.int k l)) (hh : (hi' = none ∧ h = n) ∨ ∃ k, hi' = some (.int k h))
    (h0 : 0 ≤ l) (h1 : l ≤ h) (h2 : h ≤ c) (hnc : n ≤ c) (hln : hi' = none → l ≤ n) :
    (Instr.sliceAt t (.slice A n c) lo hi' none).run P w = .ok (.slice (if c = l.toNat then A else A.map (·.add (l.toNat * P.cellsOf e))) (h.toNat - l.toNat) (c - l.toNat)) w := by
  have he : P.elem t = e := by simp [Program.elem, ht]
  have ht' := elem_of ht
  rw [run_sliceAt_slice w t _ _ _ _ ht']
  rcases hl with ⟨rfl, rfl⟩ | ⟨kl, rfl⟩ <;> rcases hh with ⟨rfl, rfl⟩ | ⟨kh, rfl⟩
  · rw [run_slice_all w t A n c ht', he, run_sizeOf hi]; simp [sliced, Result.andThen]
  · rw [run_slice_h w t A n c ht' kh h h1 h2, he, run_sizeOf hi]; simp [sliced, Result.andThen]
  · rw [run_slice_l w t A n c ht' kl l h0 (hln rfl), he, run_sizeOf hi]; simp [sliced, Result.andThen]
  · rw [run_slice_lh w t A n c ht' kl kh l h h0 h1 h2, he, run_sizeOf hi]; simp [sliced, Result.andThen]
theorem strSl_run {t : TypeId} (ht : P.underlying t = some .string) {s : ByteArray} {lo hi' : Option Value} {l h : Int} (hl : (lo = none ∧ l = 0) ∨ ∃ k, lo = some (.int k l)) (hh : (hi' = none ∧ h = s.size) ∨ ∃ k, hi' = some (.int k h))
    (h0 : 0 ≤ l) (h1 : l ≤ h) (h2 : h ≤ s.size) : (Instr.slice t (.string s) lo hi' none).run P w = .ok (.string (s.extract l.toNat h.toNat)) w := by
  have h3 : (h.toNat : Int) = h := Int.toNat_of_nonneg (by omega)
  have h4 : 0 ≤ h := by omega
  have h5 : l ≤ s.size := by omega
  rcases hl with ⟨rfl, rfl⟩ | ⟨kl, rfl⟩ <;> rcases hh with ⟨rfl, rfl⟩ | ⟨kh, rfl⟩ <;>
    simp [Instr.slice, run_underlying ht, Instr.sliceBounds, run_sliceBound, h0, h1, h2, h3, h4, h5]
theorem loB_run (h : Rel N F0 M0 w0 hv st a w) {lo : Option Operand} {l : Int} (hl : loB (lo.map (ev st)) = some l) : (lo.map a.eval = none ∧ l = 0) ∨ ∃ k, lo.map a.eval = some (.int k l) := by
  cases lo with
  | none => simp only [Option.map_none, loB, Option.some.injEq] at hl; exact .inl ⟨rfl, hl.symm⟩
  | some x =>
    simp only [Option.map_some] at hl ⊢
    unfold loB at hl
    split at hl
    · rename_i e; cases e
    · rename_i k l' e
      injection e with e
      obtain rfl := Option.some.inj hl
      exact .inr ⟨k, by rw [(ev_lit h e).1]⟩
    · cases hl
theorem hiB_run (h : Rel N F0 M0 w0 hv st a w) {hi : Option Operand} {n : Nat} {b : Int} (hb : hiB n (hi.map (ev st)) = some b) : (hi.map a.eval = none ∧ b = n) ∨ ∃ k, hi.map a.eval = some (.int k b) := by
  cases hi with
  | none => simp only [Option.map_none, hiB, Option.some.injEq] at hb; exact .inl ⟨rfl, hb.symm⟩
  | some x =>
    simp only [Option.map_some] at hb ⊢
    unfold hiB at hb
    split at hb
    · rename_i e; cases e
    · rename_i k l' e
      injection e with e
      obtain rfl := Option.some.inj hb
      exact .inr ⟨k, by rw [(ev_lit h e).1]⟩
    · cases hb
theorem row_val (h : Rel N F0 M0 w0 hv st a w) {s sz : Nat} {e : TypeId} {xs : List D} (hs : st.row? s = some (sz, e, xs)) : ∃ A c, hv s = .slice A xs.length c ∧ xs.length ≤ c ∧ (∀ y, A = some y → ∃ b, y = ⟨b, 0, none⟩) := by
  obtain ⟨css, h1, _, _⟩ := row_rep h hs
  rcases h1.2 with ⟨e1, e2⟩ | ⟨g, cap, cur, e1, _, _, h2, _⟩
  · exact ⟨none, 0, by rw [e1, e2], by omega, fun y hy => by cases hy⟩
  · exact ⟨_, _, e1, h2, fun y hy => ⟨g, (Option.some.inj hy).symm⟩⟩
theorem sliceA_sound (h : Rel N F0 M0 w0 hv st a w) {t : TypeId} {x : Operand} {lo hi : Option Operand} (ho : o.op = .slice t x lo hi none) (hp : (sliceA P st t (ev st x) (lo.map (ev st)) (hi.map (ev st))).pre) :
    Computes P N st a hv (Fr F0 w0 hv st w) w o (sliceA P st t (ev st x) (lo.map (ev st)) (hi.map (ev st))) ∧ (sliceA P st t (ev st x) (lo.map (ev st)) (hi.map (ev st))).up = [] := by
  unfold sliceA at hp ⊢
  have hrun : ∀ v, (Instr.sliceAt t (a.eval x) (lo.map a.eval) (hi.map a.eval) none).run P w = .ok v w → (execOp a.eval o).run P w = .ok (.value v) w := by
    intro v hr
    simp [execOp, ho, hr]
  split at hp
  · rename_i e l hu hlo
    have hl := loB_run h hlo
    split at hp
    · rename_i sz xs ex
      split at hp
      · rename_i b hhi
        refine ⟨?_, rfl⟩
        obtain ⟨⟨h0, h1, h2⟩, h3, h4⟩ := hp
        have hh := hiB_run h hhi
        obtain ⟨cs, hx, hv'⟩ := ev_dat h ex
        cases hx with
        | sl A c es hc hm ha hels =>
          have hv' : a.eval x = .slice A xs.length c := hv'
          have hr := slice_run (w := w) hu h3 (A := A) (n := xs.length) (c := c) _ _ hl hh h0 h1 (by omega) hc (fun e => by omega)
          rw [← hv'] at hr
          refine ⟨_, hrun _ hr, ?_⟩
          have hlen : ((xs.take b.toNat).drop l.toNat).length = b.toNat - l.toNat := by rw [List.length_drop, List.length_take]; omega
          have key := Rep.sl (N := N) (F := Fr F0 w0 hv st w) (w := w) (sz := sz) (xs := (xs.take b.toNat).drop l.toNat) (if c = l.toNat then A else A.map (·.add (l.toNat * P.cellsOf e))) (c - l.toNat) (fun i => es (l.toNat + i)) (by rw [hlen]; omega) (by omega)
            (fun hp => by
              rw [hlen] at hp
              obtain ⟨bb, off, e1, hb, hcs⟩ := ha (by omega)
              refine ⟨bb, off + l.toNat * sz, ?_, hb, fun i hi' => ?_⟩
              · rw [if_neg (by omega), e1, h4]; simp [add_plain]
              · rw [hlen] at hi'
                have := hcs (l.toNat + i) (by omega)
                refine ⟨this.1, ?_⟩
                have h5 := this.2
                rw [Nat.add_mul, ← Nat.add_assoc] at h5
                exact h5)
            (fun i d hd => by
              rw [List.getElem?_drop, List.getElem?_take] at hd
              split at hd
              · exact hels _ d hd
              · cases hd)
          rw [hlen] at key
          exact ⟨_, key, rfl⟩
      · exact hp.elim
    · rename_i ob ex
      split at hp
      · rename_i sz e' xs hrow
        split at hp
        · rename_i b hhi
          refine ⟨?_, rfl⟩
          obtain ⟨⟨h0, h1, h2⟩, h3, h4⟩ := hp
          have hh := hiB_run h hhi
          have hx := ev_rep h x
          rw [ex] at hx
          have hv' := hx ⟨_, hrow⟩
          obtain ⟨A, c, e1, hc, hA⟩ := row_val h hrow
          have hr := slice_run (w := w) hu h3 (A := A) (n := xs.length) (c := c) _ _ hl hh h0 h1 (by omega) hc (fun e => by omega)
          rw [← e1, ← hv'] at hr
          refine ⟨_, hrun _ hr, ?_⟩
          intro sz' e'' xs' hrow'
          rw [hrow] at hrow'
          simp only [Option.some.injEq, Prod.mk.injEq] at hrow'
          obtain ⟨rfl, rfl, rfl⟩ := hrow'
          refine ⟨A, xs.length, c, if c = l.toNat then A else A.map (·.add (l.toNat * P.cellsOf e)), e1, ?_, fun hor => ?_⟩
          · rw [show (b - l).toNat = b.toNat - l.toNat by omega]
          · rw [h4]
            split
            · rename_i hcl
              rcases hor with g | g
              · omega
              · rw [g]
                cases A with
                | none => rfl
                | some y => obtain ⟨b', rfl⟩ := hA y rfl; simp [add_plain]
            · rfl
        · exact hp.elim
      · exact hp.elim
    · rename_i ob k n ex
      split at hp
      · rename_i sz e' xs hrow
        split at hp
        · rename_i b hhi
          refine ⟨?_, rfl⟩
          obtain ⟨⟨h0, h1, h2⟩, h5, h3, h4⟩ := hp
          have hh := hiB_run h hhi
          have hx := ev_rep h x
          rw [ex] at hx
          obtain ⟨A0, N', c0, A', g1, g2, g3⟩ := hx _ _ _ hrow
          obtain ⟨A, c, e1, hc, hA⟩ := row_val h hrow
          rw [e1] at g1
          injection g1 with g4 g5 g6
          subst g4 g5 g6
          have hr := slice_run (w := w) hu h3 (A := A') (n := n) (c := c - k) _ _ hl hh h0 h1 (by omega) (by omega) (fun e => by omega)
          rw [← g2] at hr
          refine ⟨_, hrun _ hr, ?_⟩
          intro sz' e'' xs' hrow'
          rw [hrow] at hrow'
          simp only [Option.some.injEq, Prod.mk.injEq] at hrow'
          obtain ⟨rfl, rfl, rfl⟩ := hrow'
          refine ⟨A, xs.length, c, if c - k = l.toNat then A' else A'.map (·.add (l.toNat * P.cellsOf e)), e1, ?_, fun hor => ?_⟩
          · rw [show (b - l).toNat = b.toNat - l.toNat by omega, show c - k - l.toNat = c - (k + l.toNat) by omega]
          · have hAA : A' = A.map (·.add (k * sz)) := by
              refine g3 ?_
              rcases hor with g | g
              · left; omega
              · right; omega
            rw [h4, hAA]
            split
            · rename_i hcl
              rcases hor with g | g
              · omega
              · have : k = 0 := by omega
                subst this
                rw [g]
            · cases A with
              | none => rfl
              | some y =>
                obtain ⟨b', rfl⟩ := hA y rfl
                simp [add_plain, Nat.add_mul]
        · exact hp.elim
      · exact hp.elim
    · exact hp.elim
  · rename_i m e l hu hlo
    have hl := loB_run h hlo
    split at hp
    · rename_i ob ehi ex
      refine ⟨?_, rfl⟩
      obtain ⟨rfl, h3⟩ := hp
      have hx := ev_rep h x
      rw [ex] at hx
      obtain ⟨b, g1, g2⟩ := hx
      have hhi : hi.map a.eval = none := by
        cases hi with
        | none => rfl
        | some y => cases ehi
      refine ⟨_, hrun _ ?_, ⟨b, rfl, g2⟩⟩
      rw [g1, hhi]
      rcases hl with ⟨e1, _⟩ | ⟨k, e1⟩
      · rw [e1]
        simp [Instr.sliceAt, run_underlying hu, Instr.sureAddr, Instr.sliceBounds, run_sizeOf h3, Addr.add]
      · rw [e1]
        simp [Instr.sliceAt, run_underlying hu, Instr.sureAddr, Instr.sliceBounds, Instr.sliceBound, asIntOf, run_sizeOf h3, Addr.add]
    · exact hp.elim
  · rename_i l hu hlo
    have hl := loB_run h hlo
    unfold strSl at hp ⊢
    split at hp
    · rename_i s ex
      split at hp
      · rename_i b hhi
        refine ⟨?_, rfl⟩
        obtain ⟨h0, h1, h2⟩ := hp
        have hh := hiB_run h hhi
        obtain ⟨v1, _⟩ := ev_lit h ex
        refine ⟨_, hrun (.string (s.extract l.toNat b.toNat)) ?_, rep_of_lit rfl⟩
        rw [v1, run_sliceAt_string w t _ _ _ _ hu]
        exact strSl_run hu hl hh h0 h1 h2
      · exact hp.elim
    · exact hp.elim
  · exact hp.elim
theorem indexAt_run {t e : TypeId} {n : Int} {k : IntKind} {A : Option Addr} {len c b off : Nat} {x y : Operand} (ho : o.op = .indexAddr t x y) (hu : P.underlying t = some (.slice e)) (hi : (P.info? e).isSome = true) (hx : a.eval x = .slice A len c) (hy : a.eval y = .int k n)
    (h0 : 0 ≤ n) (h1 : n < len) (hA : A = some ⟨b, off, none⟩) : (execOp a.eval o).run P w = .ok (.value (.pointer (some ⟨b, off + n.toNat * P.cellsOf e, none⟩))) w := by
  subst hA
  simp only [execOp, ho, hx, hy, Instr.indexAt]
  simp [asIntOf, run_underlying hu, h0, h1, run_sizeOf hi, add_plain]
theorem made_flat (zc : Array Value) (c sz : Nat) (hz : zc.size = sz) (h0 : 0 < sz) : (madeCells zc (c * sz)).toList = (List.replicate c zc.toList).flatten := by
  have hl : ∀ (k : Nat) (cs : List Value), (List.replicate c zc.toList)[k]? = some cs → cs.length = sz := fun k cs hk => by
    rw [List.getElem?_replicate] at hk
    split at hk
    · obtain rfl := Option.some.inj hk; simpa using hz
    · cases hk
  have hfl := flatten_length _ hl
  rw [List.length_replicate] at hfl
  apply List.ext_getElem?
  intro k
  rcases Nat.lt_or_ge k (c * sz) with hk | hk
  · have hj : k / sz < c := Nat.div_lt_of_lt_mul (by rw [Nat.mul_comm]; exact hk)
    have hm : k % sz < sz := Nat.mod_lt _ h0
    have hr := flat_get (sz := sz) (List.replicate c zc.toList) (k / sz) (k % sz) zc.toList zc[k % sz] hl (by rw [List.getElem?_replicate, if_pos hj]) (by rw [Array.getElem?_toList]; exact Array.getElem?_eq_getElem (by omega))
    rw [Nat.mul_comm, Nat.div_add_mod] at hr
    rw [hr]
    simp [madeCells, hk, hz]
    rw [getElem!_pos zc (k % sz) (by omega)]
  · rw [List.getElem?_eq_none (by rw [Array.length_toList, size_madeCells]; exact hk), List.getElem?_eq_none (by omega)]
theorem ownsRow_new (cur : Array Value) {e : TypeId} {sz n c : Nat} {xs : List Value} (hx : xs.length = n * sz) (hnc : n ≤ c) (hc : c ≤ maxLen) (hs : cur.size = c * sz) (ht : cur.toList.take (n * sz) = xs) :
    (w.alloc (.cells cur e)).ownsRow 0 e sz (.slice (some ⟨w.heap.size, 0, none⟩) n c) n xs :=
  ⟨hx, .inr ⟨w.heap.size, c, cur, rfl, Nat.zero_le _, heap_alloc_new w _, hnc, hc, hs, ht⟩⟩
theorem frame_alloc (w : World) (ob : Obj) : Frame0 (fun _ => False) w (w.alloc ob) := ⟨rfl, rfl, rfl, by simp, fun k hk _ => Below.heap_alloc _ _ _ hk⟩
theorem take_replicate_flat {sz n c : Nat} {zl : List Value} (hz : zl.length = sz) (h : n ≤ c) : (List.replicate c zl).flatten.take (n * sz) = (List.replicate n zl).flatten := by
  obtain ⟨m, rfl⟩ := Nat.exists_eq_add_of_le h
  rw [← List.replicate_append_replicate, List.flatten_append]
  have hl : (List.replicate n zl).flatten.length = n * sz := by
    rw [flatten_length (sz := sz)]
    · rw [List.length_replicate]
    · intro k cs hk
      rw [List.getElem?_replicate] at hk
      split at hk
      · obtain rfl := Option.some.inj hk; exact hz
      · cases hk
  rw [← hl, List.take_left]
theorem make_sound (h : Rel N F0 M0 w0 hv st a w) (hno : ∀ s, o.dst = some s → noref st s) {t e : TypeId} {x y : Operand} {kl kc : IntKind} {n m : Int} {k : Nat} {z : Value} (ho : o.op = .makeSlice t x y) (hu : P.underlying t = some (.slice e)) (hx : a.eval x = .int kl n) (hy : a.eval y = .int kc m)
    (hd : o.dst = some k) (hz : (P.info? e).bind (·.zero) = some z) (h0 : 0 ≤ n) (h1 : n ≤ m) (hb : P.bytesOf e * m ≤ 140737488355328) (hm : m ≤ 9223372036854775807) (hzs : z.cells.size = P.cellsOf e) (hs : 0 < P.cellsOf e) (hl : litOk P e z) (hk : st.obj k = none) (hk2 : k < st.ob.length)
    (hn : ∀ hv' a' w', Rel N F0 M0 w0 hv' { (st.put (some k) (.row k)) with ob := st.ob.set k (some (.row (P.cellsOf e) e (List.replicate n.toNat (litD P e z)))) } a' w' → next a' w') : Oper.wp P o a w next Q := by
  obtain ⟨i, hi, hz'⟩ := Option.bind_eq_some_iff.1 hz
  rw [bytesOf_info hi] at hb
  have hr := run_make (P := P) w t e i z hu hi hz' kl kc n m h0 h1 (by omega) hm
  have hcs := cellsOf_info hi
  rw [← hcs] at hr
  have hrun : (execOp a.eval o).run P w = .ok (.value (.slice (some ⟨w.heap.size, 0, none⟩) n.toNat m.toNat)) (w.alloc (.cells (madeCells z.cells (m.toNat * P.cellsOf e)) e)) := by
    simp [execOp, ho, hx, hy, hr]
  have hml : m.toNat ≤ maxLen := by simp only [maxLen]; omega
  have hzl : z.cells.toList.length = P.cellsOf e := by simpa using hzs
  have hF : ∀ b, Fr F0 w0 hv st w b → Fr F0 w0 hv st w b ∧ (w.alloc (.cells (madeCells z.cells (m.toNat * P.cellsOf e)) e)).heap[b]? = w.heap[b]? := fun b hb => ⟨hb, (frame_alloc w _).block b (Fr_lt h b hb) (fun h => h)⟩
  obtain ⟨hv', hrel⟩ := h.new (s := k) (s0 := none) (ob := .row (P.cellsOf e) e (List.replicate n.toNat (litD P e z))) (v := .slice (some ⟨w.heap.size, 0, none⟩) n.toNat m.toNat) (x := .row k) (w' := w.alloc (.cells (madeCells z.cells (m.toNat * P.cellsOf e)) e)) (M1 := fun _ => False) hk hk2 (hno k hd) (frame_alloc w _) (fun _ h => h.elim)
    (fun k' hk' => by left; simp only [blkOf, Option.some.injEq] at hk'; omega)
    ⟨List.replicate n.toNat z.cells.toList, by
      rw [List.length_replicate]
      refine ownsRow_new _ ?_ (by omega) hml (size_madeCells _ _) ?_
      · rw [flatten_length (sz := P.cellsOf e)]
        · rw [List.length_replicate]
        · intro k cs hk
          rw [List.getElem?_replicate] at hk
          split at hk
          · obtain rfl := Option.some.inj hk; exact hzl
          · cases hk
      · rw [made_flat _ _ _ hzs hs]
        exact take_replicate_flat hzl (by omega), by simp, fun i d cs g1 g2 => by
      rw [List.getElem?_replicate] at g1 g2
      split at g1
      · rename_i hi'
        rw [if_pos hi'] at g2
        obtain rfl := Option.some.inj g1
        obtain rfl := Option.some.inj g2
        exact ⟨hzl, (litD_rep hl).mono hF⟩
      · cases g1⟩ trivial (.inr (.inl rfl))
  refine wp_value hrun (hn hv' _ _ ?_)
  rw [hd]
  exact hrel
end Go.Proofs.Ytpggfnggffedlaa.Ae

namespace Go.Proofs.Ytpggfnggffedlaa.Ae
open Go Go.RowKit
def RepRes (N : NR) (F : Nat → Prop) (w : World) : List D → Value → Prop
  | [d], v => RepV N F w d v
  | ds, v => ∃ vs, v = .tuple vs ∧ RepVs N F w ds vs.toList
def SpecD (N : NR) (P : Program) (f : FuncId) (g : List D → Prop × List D) : Prop := ∀ ds, (g ds).1 → ∀ (F : Nat → Prop) (w : World) (vs : List Value), (∀ k, F k → k < w.heap.size) → N.ok F w → RepVs N F w ds vs →
  Calls P f vs.toArray w fun e w' => ∃ v, e = .returned v ∧ RepRes N (fun k => F k ∨ (w.heap.size ≤ k ∧ k < w'.heap.size)) w' (g ds).2 v ∧ Frame0 (fun _ => False) w w'
def ArR (N : NR) (F : Nat → Prop) (w : World) (bs : List Nat) : Ar → Value → Prop
  | .dat d, v => RepV N F w d v
  | .ref i, v => ∃ b, bs[i]? = some b ∧ v = .pointer (some ⟨b, 0, none⟩)
def RvR (N : NR) (F : Nat → Prop) (w : World) (bs : List Nat) : Rv → Value → Prop
  | .dat d, v => RepV N F w d v
  | .ref i, v => ∃ b, bs[i]? = some b ∧ v = .pointer (some ⟨b, 0, none⟩)
def ResR (N : NR) (F : Nat → Prop) (w : World) (bs : List Nat) : List Rv → Value → Prop
  | [r], v => RvR N F w bs r v
  | rs, v => ∃ vs, v = .tuple vs ∧ rs.length = vs.size ∧ ∀ (i : Nat) (r : Rv) (u : Value), rs[i]? = some r → vs[i]? = some u → RvR N F w bs r u
def InBoxes (N : NR) (F : Nat → Prop) (w : World) (bs : List Nat) (ds : List D) : Prop := bs.length = ds.length ∧ ∀ (i b : Nat) (d : D), bs[i]? = some b → ds[i]? = some d → ∃ cs t, w.heap[b]? = some (.cells cs t (0, 0)) ∧ Rep N F w d cs.toList
def SpecM (N : NR) (P : Program) (f : FuncId) (g : List Ar → List D → Prop × List Rv × List D) : Prop := ∀ ars ds, (g ars ds).1 → ∀ (F : Nat → Prop) (w : World) (bs : List Nat) (vs : List Value), (∀ k, F k → k < w.heap.size ∧ k ∉ bs) → N.ok F w → bs.Nodup → InBoxes N F w bs ds →
  ars.length = vs.length → (∀ (i : Nat) (x : Ar) (v : Value), ars[i]? = some x → vs[i]? = some v → ArR N F w bs x v) →
  Calls P f vs.toArray w fun e w' => ∃ v, e = .returned v ∧ ResR N (fun k => F k ∨ (w.heap.size ≤ k ∧ k < w'.heap.size)) w' bs (g ars ds).2.1 v ∧ Frame0 (· ∈ bs) w w' ∧ InBoxes N (fun k => F k ∨ (w.heap.size ≤ k ∧ k < w'.heap.size)) w' bs (g ars ds).2.2
def RowAt (N : NR) (F : Nat → Prop) (w : World) (b sz : Nat) (e : TypeId) (c : Nat) (xs : List D) : Prop := ∃ css : List (List Value), w.ownsRow 0 e sz (.slice (some ⟨b, 0, none⟩) xs.length c) xs.length css.flatten ∧ css.length = xs.length ∧ ∀ (i : Nat) (d : D) (cs : List Value), xs[i]? = some d → css[i]? = some cs → cs.length = sz ∧ Rep N F w d cs
def WrR (N : NR) (F : Nat → Prop) (w : World) (b sz c : Nat) : Option Wr → Value → Prop
  | none, v => v = .tuple #[]
  | some (.dat d), v => RepV N F w d v
  | some (.win lo n), v => v = .slice (some ⟨b, lo * sz, none⟩) n (c - lo)
def SpecW (N : NR) (P : Program) (f : FuncId) (sz : Nat) (e : TypeId) (g : List D → Nat → Nat → List D → Prop × Option Wr × List D) : Prop := ∀ xs lo n ds, (g xs lo n ds).1 → 0 < xs.length → lo + n ≤ xs.length → (0 < n ∨ lo = 0) →
  ∀ (F : Nat → Prop) (w : World) (b c : Nat) (vs : List Value), (∀ k, F k → k < w.heap.size ∧ k ≠ b) → N.ok F w → RowAt N F w b sz e c xs → RepVs N F w ds vs →
  Calls P f (Value.slice (some ⟨b, lo * sz, none⟩) n (c - lo) :: vs).toArray w fun ee w' => ∃ v, ee = .returned v ∧ WrR N (fun k => F k ∨ (w.heap.size ≤ k ∧ k < w'.heap.size)) w' b sz c (g xs lo n ds).2.1 v ∧ Frame0 (· = b) w w' ∧ (g xs lo n ds).2.2.length = xs.length ∧ RowAt N (fun k => F k ∨ (w.heap.size ≤ k ∧ k < w'.heap.size)) w' b sz e c (g xs lo n ds).2.2
def SpecO (N : NR) (P : Program) (f : FuncId) (sz : Nat) (e : TypeId) (g : List D → Prop × List D) : Prop := ∀ ds, (g ds).1 → ∀ (F : Nat → Prop) (w : World) (vs : List Value), (∀ k, F k → k < w.heap.size) → N.ok F w → RepVs N F w ds vs →
  Calls P f vs.toArray w fun ee w' => ∃ v, ee = .returned v ∧ (∃ css : List (List Value), w'.ownsRow w.heap.size e sz v (g ds).2.length css.flatten ∧ css.length = (g ds).2.length ∧ ∀ (i : Nat) (d : D) (cs : List Value), (g ds).2[i]? = some d → css[i]? = some cs → cs.length = sz ∧ Rep N (fun _ => False) w' d cs) ∧ Frame0 (fun _ => False) w w'
def SpecB (N : NR) (P : Program) (f : FuncId) (g : List D → Prop × D) : Prop := ∀ ds, (g ds).1 → ∀ (F : Nat → Prop) (w : World) (vs : List Value), (∀ k, F k → k < w.heap.size) → N.ok F w → RepVs N F w ds vs →
  Calls P f vs.toArray w fun ee w' => ∃ v, ee = .returned v ∧ (∃ b cs t, v = .pointer (some ⟨b, 0, none⟩) ∧ w.heap.size ≤ b ∧ w'.heap[b]? = some (.cells cs t (0, 0)) ∧ Rep N (fun k => F k ∨ (w.heap.size ≤ k ∧ k < w'.heap.size ∧ k ≠ b)) w' (g ds).2 cs.toList) ∧ Frame0 (fun _ => False) w w'
def SpecP (N : NR) (P : Program) (f : FuncId) (t : TypeId) (g : List Value → List D → Prop × List D × List Value) : Prop := ∀ ks ds, (g ks ds).1 → ∀ (F : Nat → Prop) (w : World) (b : Nat) (ob : Obj) (vs : List Value), (∀ k, F k → k < w.heap.size ∧ k ≠ b) → N.ok F w → w.heap[b]? = some ob → MpR F w t ks (.map (some b)) ob → RepVs N F w ds vs →
  Calls P f (Value.map (some b) :: vs).toArray w fun ee w' => ∃ v, ee = .returned v ∧ RepRes N (fun k => F k ∨ (w.heap.size ≤ k ∧ k < w'.heap.size)) w' (g ks ds).2.1 v ∧ Frame0 (· = b) w w' ∧ ∃ ob', w'.heap[b]? = some ob' ∧ MpR (fun k => F k ∨ (w.heap.size ≤ k ∧ k < w'.heap.size)) w' t (g ks ds).2.2 (.map (some b)) ob'
def callable (P : Program) (f : FuncId) : Bool := match P.funcs[f]? with
  | some fn => fn.name != "runtime.NumGoroutine" && fn.body.isSome
  | none => false
def CtOK (N : NR) (P : Program) (f : FuncId) : Ct → Prop
  | .data g => SpecD N P f g
  | .mut _ g => SpecM N P f g
  | .win sz e g gd => SpecW N P f sz e g ∧ SpecD N P f gd
  | .own sz e g => SpecO N P f sz e g
  | .ownb g => SpecB N P f g
  | .mp t g => SpecP N P f t g
def TbOK (N : NR) (P : Program) (tb : FuncId → Option Ct) : Prop := ∀ f c, tb f = some c → CtOK N P f c ∧ callable P f = true
variable {P : Program} {mf : FuncId → Bool} {tb : FuncId → Option Ct} {N : NR} {F0 : Nat → Prop} {M0 : Nat → Nat → Prop} {w0 : World} {hv : Nat → Value} {st : St} {a : Act} {w : World} {o : Oper} {next : Act → World → Prop} {Q : Exit → Act → World → Prop}
theorem ups_len : ∀ (l : List (Nat × Option Ob)) (ob : List (Option Ob)), (St.ups ob l).length = ob.length
  | [], ob => rfl
  | p :: l, ob => by
    show (St.ups (ob.set p.1 p.2) l).length = _
    rw [ups_len l, List.length_set]
theorem ups_cons (p : Nat × Option Ob) (l : List (Nat × Option Ob)) (ob : List (Option Ob)) : St.ups ob (p :: l) = St.ups (ob.set p.1 p.2) l := rfl
theorem ups_append (l l' : List (Nat × Option Ob)) (ob : List (Option Ob)) : St.ups ob (l ++ l') = St.ups (St.ups ob l) l' := by unfold St.ups; rw [List.foldl_append]
theorem getD_set (ob : List (Option Ob)) (s o : Nat) (c : Option Ob) : (ob.set s c).getD o none = if o = s ∧ s < ob.length then c else ob.getD o none := set_obj (st := ⟨[], ob⟩) [] s c o
theorem ups_not : ∀ (l : List (Nat × Option Ob)) (ob : List (Option Ob)) (o : Nat), (∀ p ∈ l, p.1 ≠ o) → (St.ups ob l).getD o none = ob.getD o none
  | [], ob, o, _ => rfl
  | p :: l, ob, o, h => by
    rw [ups_cons, ups_not l _ o (fun q hq => h q (by simp [hq])), getD_set, if_neg]
    rintro ⟨e, _⟩
    exact h p (by simp) e.symm
theorem ups_const : ∀ (l : List (Nat × Option Ob)) (ob : List (Option Ob)) (o : Nat) (c : Option Ob), (∀ p ∈ l, p.1 = o → p.2 = c) → o < ob.length → ((∃ p ∈ l, p.1 = o) ∨ ob.getD o none = c) → (St.ups ob l).getD o none = c
  | [], ob, o, c, _, _, h => by
    rcases h with ⟨p, hp, _⟩ | h
    · cases hp
    · exact h
  | p :: l, ob, o, c, h, hl, hex => by
    rw [ups_cons]
    refine ups_const l _ o c (fun q hq => h q (by simp [hq])) (by rw [List.length_set]; exact hl) ?_
    by_cases hp : p.1 = o
    · right
      rw [getD_set, if_pos ⟨hp.symm, by rw [hp]; exact hl⟩]
      exact h p (by simp) hp
    · rcases hex with ⟨q, hq, e⟩ | hex
      · rcases List.mem_cons.1 hq with rfl | hq
        · exact absurd e hp
        · exact .inl ⟨q, hq, e⟩
      · right
        rw [getD_set, if_neg (fun e => hp e.1.symm)]
        exact hex
def St.frz (st : St) (l : List Nat) : St := { st with ob := St.ups st.ob (freezes st l) }
theorem frz_obj (st : St) (l : List Nat) (o : Nat) : (st.frz l).obj o = if o ∈ l then freeze st o else st.obj o := by
  show (St.ups st.ob (freezes st l)).getD o none = _
  by_cases h : o ∈ l
  · rw [if_pos h]
    by_cases hl : o < st.ob.length
    · refine ups_const _ _ _ _ (fun p hp e => ?_) hl (.inl ⟨(o, freeze st o), List.mem_map.2 ⟨o, h, rfl⟩, rfl⟩)
      obtain ⟨o', _, rfl⟩ := List.mem_map.1 hp
      simp only at e
      rw [e]
    · have e1 : st.obj o = none := by simp [St.obj, List.getD_eq_getElem?_getD, List.getElem?_eq_none (Nat.le_of_not_lt hl)]
      have e2 : freeze st o = none := by unfold freeze; rw [e1]
      rw [e2, List.getD_eq_getElem?_getD, List.getElem?_eq_none (by rw [ups_len]; omega)]
      rfl
  · rw [if_neg h]
    refine ups_not _ _ _ (fun p hp e => ?_)
    obtain ⟨o', ho', rfl⟩ := List.mem_map.1 hp
    simp only at e
    exact h (e ▸ ho')
theorem freeze_cases (st : St) (o : Nat) : freeze st o = st.obj o ∨ (∃ d, st.obj o = some (.box d) ∧ freeze st o = some (.fbox d)) ∨ ∃ sz e xs, st.obj o = some (.row sz e xs) ∧ freeze st o = some (.frow sz e xs) := by
  unfold freeze
  split
  · rename_i d h; exact .inr (.inl ⟨d, h, rfl⟩)
  · rename_i sz e xs h; exact .inr (.inr ⟨sz, e, xs, h, rfl⟩)
  · exact .inl rfl
theorem frz_cases (st : St) (l : List Nat) (o : Nat) : (st.frz l).obj o = st.obj o ∨ (∃ d, st.obj o = some (.box d) ∧ (st.frz l).obj o = some (.fbox d)) ∨ ∃ sz e xs, st.obj o = some (.row sz e xs) ∧ (st.frz l).obj o = some (.frow sz e xs) := by
  rw [frz_obj]
  split
  · exact freeze_cases st o
  · exact .inl rfl
theorem frz_box (st : St) (l : List Nat) (o : Nat) : (st.frz l).box? o = st.box? o := by
  unfold St.box?
  rcases frz_cases st l o with e | ⟨d, e1, e2⟩ | ⟨sz, e, xs, e1, e2⟩
  · rw [e]
  · rw [e1, e2]
  · rw [e1, e2]
theorem frz_row (st : St) (l : List Nat) (o : Nat) : (st.frz l).row? o = st.row? o := by
  unfold St.row?
  rcases frz_cases st l o with e | ⟨d, e1, e2⟩ | ⟨sz, e, xs, e1, e2⟩
  · rw [e]
  · rw [e1, e2]
  · rw [e1, e2]
theorem frz_mp (st : St) (l : List Nat) (o : Nat) : (st.frz l).mp? o = st.mp? o := by
  unfold St.mp?
  rcases frz_cases st l o with e | ⟨d, e1, e2⟩ | ⟨sz, e, xs, e1, e2⟩
  · rw [e]
  · rw [e1, e2]
  · rw [e1, e2]
theorem Rel.frz (h : Rel N F0 M0 w0 hv st a w) (l : List Nat) : Rel N F0 M0 w0 hv (st.frz l) a w := by
  have hF : ∀ b, Fr F0 w0 hv st w b → Fr F0 w0 hv (st.frz l) w b ∧ w.heap[b]? = w.heap[b]? := by
    rintro b (hb0 | ⟨h1, h2, h3⟩)
    · exact ⟨.inl hb0, rfl⟩
    · refine ⟨.inr ⟨h1, h2, fun o ob hd hl => ?_⟩, rfl⟩
      rcases frz_cases st l o with e | ⟨d, e1, e2⟩ | ⟨sz, e, xs, e1, e2⟩
      · exact h3 o ob (e ▸ hd) hl
      · rw [e2] at hd; obtain rfl := Option.some.inj hd; cases hl
      · rw [e2] at hd; obtain rfl := Option.some.inj hd; cases hl
  have hback : ∀ o ob, (st.frz l).obj o = some ob → ∃ ob', st.obj o = some ob' := by
    intro o ob hd
    rcases frz_cases st l o with e | ⟨d, e1, e2⟩ | ⟨sz, e, xs, e1, e2⟩
    · exact ⟨ob, e ▸ hd⟩
    · exact ⟨_, e1⟩
    · exact ⟨_, e1⟩
  refine ⟨h.lt0, h.ltM, h.bel, fun t => ?_, h.sz, fun o ob hd => ?_, fun o ob b hd hb => ?_, fun o o' ob ob' b h1 h2 => ?_, h.df⟩
  · exact (h.tm t).mono hF (fun o _ => ⟨fun _ => rfl, fun hd => by rwa [frz_box] at hd, fun sz e xs hr => ⟨xs, by rwa [frz_row] at hr⟩, fun _ => rfl, fun hI => by rwa [frz_mp] at hI⟩)
  · rcases frz_cases st l o with e | ⟨d, e1, e2⟩ | ⟨sz, e, xs, e1, e2⟩
    · exact (h.ob o ob (e ▸ hd)).mono hF (fun _ _ => rfl)
    · rw [e2] at hd
      obtain rfl := Option.some.inj hd
      have := (h.ob o _ e1).mono hF (fun _ _ => rfl)
      exact this
    · rw [e2] at hd
      obtain rfl := Option.some.inj hd
      have := (h.ob o _ e1).mono hF (fun _ _ => rfl)
      exact this
  · rcases frz_cases st l o with e | ⟨d, e1, e2⟩ | ⟨sz, e, xs, e1, e2⟩
    · exact h.own o ob b (e ▸ hd) hb
    · rw [e2] at hd
      obtain rfl := Option.some.inj hd
      exact h.own o _ b e1 hb
    · rw [e2] at hd
      obtain rfl := Option.some.inj hd
      exact h.own o _ b e1 hb
  · obtain ⟨x1, h1'⟩ := hback o ob h1
    obtain ⟨x2, h2'⟩ := hback o' ob' h2
    exact h.inj o o' x1 x2 b h1' h2'
end Go.Proofs.Ytpggfnggffedlaa.Ae

namespace Go.Proofs.Ytpggfnggffedlaa.Ae
open Go Go.RowKit
variable {P : Program} {mf : FuncId → Bool} {tb : FuncId → Option Ct} {N : NR} {F0 : Nat → Prop} {M0 : Nat → Nat → Prop} {w0 : World} {hv : Nat → Value} {st : St} {a : Act} {w : World} {o : Oper} {next : Act → World → Prop} {Q : Exit → Act → World → Prop}
theorem RepV.weak {F F' : Nat → Prop} {d : D} {v : Value} (h : RepV N F w d v) (hF : ∀ k, F k → F' k) : RepV N F' w d v := h.mono (fun b hb => ⟨hF b hb, rfl⟩)
theorem Rep.weak {F F' : Nat → Prop} {d : D} {cs : List Value} (h : Rep N F w d cs) (hF : ∀ k, F k → F' k) : Rep N F' w d cs := h.mono (fun b hb => ⟨hF b hb, rfl⟩)
theorem row_data (h : Rel N F0 M0 w0 hv st a w) {s sz : Nat} {e : TypeId} {xs : List D} (hrow : st.row? s = some (sz, e, xs)) {lo n : Nat} (hle : lo + n ≤ xs.length) {F : Nat → Prop} (hF : ∀ k, Fr F0 w0 hv st w k → F k) (hb : ∀ k, blkOf (hv s) = some k → F k)
    {A' : Option Addr} (hA : ∀ A N' c, hv s = .slice A N' c → (0 < n → A' = A.map (·.add (lo * sz)))) : ∃ c, (∀ A N' c', hv s = .slice A N' c' → c = c' - lo) ∧ RepV N F w (.sl sz ((xs.drop lo).take n)) (.slice A' n c) := by
  obtain ⟨css, h1, h2, h3⟩ := row_rep h hrow
  have hval : ∃ A c, hv s = .slice A xs.length c ∧ xs.length ≤ c ∧ c ≤ maxLen := by
    rcases h1.2 with ⟨e1, e2⟩ | ⟨g, cap, cur, e1, _, _, h4, h5, _⟩
    · exact ⟨none, 0, by rw [e1, e2], by omega, by simp [maxLen]⟩
    · exact ⟨_, _, e1, h4, h5⟩
  obtain ⟨A, c, hv1, hc1, hc2⟩ := hval
  have hlen : ((xs.drop lo).take n).length = n := by rw [List.length_take, List.length_drop]; omega
  refine ⟨c - lo, fun A1 N1 c1 e1 => by rw [hv1] at e1; injection e1 with _ _ e2; rw [e2], ?_⟩
  have key := Rep.sl (N := N) (F := F) (w := w) (sz := sz) (xs := (xs.drop lo).take n) A' (c - lo) (fun i => ((css.drop lo).take n).getD i []) (by rw [hlen]; omega) (by omega)
    (fun hp => by
      rw [hlen] at hp
      obtain ⟨b, c', e3, hcells⟩ := row_win h1 h2 h3 hle hp
      have hA' := hA _ _ _ hv1 hp
      rw [hv1] at e3
      injection e3 with e4 _ _
      rw [e4] at hA' hv1
      simp only [Option.map_some, add_plain, Nat.zero_add] at hA'
      refine ⟨b, lo * sz, hA', hb b (by rw [hv1]; rfl), fun i hi => ?_⟩
      rw [hlen] at hi
      have hci : ((css.drop lo).take n)[i]? = some css[lo + i] := by
        rw [List.getElem?_take, if_pos hi, List.getElem?_drop]
        exact List.getElem?_eq_getElem (by omega)
      have hxi : xs[lo + i]? = some xs[lo + i] := List.getElem?_eq_getElem (by omega)
      have hcl := (h3 (lo + i) _ _ hxi (List.getElem?_eq_getElem (by omega))).1
      rw [List.getD_eq_getElem?_getD, hci, Option.getD_some]
      refine ⟨hcl, fun j v hj => ?_⟩
      have hall : ∀ (k : Nat) (cs : List Value), ((css.drop lo).take n)[k]? = some cs → cs.length = sz := fun k cs hk => by
        rw [List.getElem?_take] at hk
        split at hk
        · rw [List.getElem?_drop] at hk
          have hk' : lo + k < xs.length := by have := (List.getElem?_eq_some_iff.1 hk).1; omega
          exact (h3 _ _ cs (List.getElem?_eq_getElem hk') hk).1
        · cases hk
      have := hcells _ v (flat_get (sz := sz) _ i j _ v hall hci hj)
      rw [← Nat.add_assoc] at this
      exact this)
    (fun i d hd => by
      rw [List.getElem?_take] at hd
      split at hd
      · rename_i hi
        rw [List.getElem?_drop] at hd
        have hxl := (List.getElem?_eq_some_iff.1 hd).1
        have hci : ((css.drop lo).take n)[i]? = some css[lo + i] := by
          rw [List.getElem?_take, if_pos hi, List.getElem?_drop]
          exact List.getElem?_eq_getElem (by omega)
        show Rep N F w d (((css.drop lo).take n).getD i [])
        rw [List.getD_eq_getElem?_getD, hci, Option.getD_some]
        exact (h3 (lo + i) d _ hd (List.getElem?_eq_getElem (by omega))).2.weak hF
      · cases hd)
  rw [hlen] at key
  exact ⟨_, key, rfl⟩
theorem row_data' (h : Rel N F0 M0 w0 hv st a w) {s sz : Nat} {e : TypeId} {xs : List D} (hrow : st.row? s = some (sz, e, xs)) {F : Nat → Prop} (hF : ∀ k, Fr F0 w0 hv st w k → F k) (hb : ∀ k, blkOf (hv s) = some k → F k) : RepV N F w (.sl sz xs) (hv s) := by
  obtain ⟨A, c, hv1, hc, hA⟩ := row_val h hrow
  obtain ⟨c', h1, h2⟩ := row_data h hrow (lo := 0) (n := xs.length) (by omega) hF hb (A' := A) (fun A1 N1 c1 e1 hp => by
    rw [hv1] at e1
    injection e1 with e2 _ _
    subst e2
    cases A with
    | none => rfl
    | some y => obtain ⟨b, rfl⟩ := hA y rfl; simp [add_plain])
  have := h1 _ _ _ hv1
  rw [this] at h2
  rw [hv1]
  simpa using h2
theorem box_data (h : Rel N F0 M0 w0 hv st a w) {s : Nat} {d : D} (hs : st.box? s = some d) {F : Nat → Prop} (hF : ∀ k, Fr F0 w0 hv st w k → F k) (hb : ∀ k, blkOf (hv s) = some k → F k) : RepV N F w (.ptr d) (hv s) := by
  obtain ⟨b, cs, t, e1, hc, hr⟩ := box_rep h hs
  rw [e1]
  exact ⟨_, .ptr b 0 cs.toList (hb b (by rw [e1]; rfl)) (cells_of_block hc) (hr.weak hF), rfl⟩
theorem arr_data (h : Rel N F0 M0 w0 hv st a w) {s b sz n : Nat} {ds : List D} (hs : st.box? s = some (.agg ds)) (hv1 : hv s = .pointer (some ⟨b, 0, none⟩)) (hn : ds.length = n) (hm : n ≤ maxLen) (hz : ∀ d ∈ ds, d.size = sz) {F : Nat → Prop} (hF : ∀ k, Fr F0 w0 hv st w k → F k) (hb : ∀ k, blkOf (hv s) = some k → F k) :
    RepV N F w (.sl sz ds) (.slice (some ⟨b, 0, none⟩) n n) := by
  obtain ⟨b', cs, t, e1, hc, hr⟩ := box_rep h hs
  rw [hv1] at e1
  injection e1 with e1
  injection e1 with e1
  injection e1 with e1
  subst e1
  have hr := hr.weak hF
  generalize hcs : cs.toList = L at hr
  cases hr with
  | @agg _ css hl hels =>
    have hall : ∀ (k : Nat) (c : List Value), css[k]? = some c → c.length = sz := fun k c hk => by
      have hk' : k < ds.length := by have := (List.getElem?_eq_some_iff.1 hk).1; omega
      rw [(hels k ds[k] c (List.getElem?_eq_getElem hk') hk).len]
      exact hz _ (List.getElem_mem hk')
    subst hn
    have key := Rep.sl (N := N) (F := F) (w := w) (sz := sz) (xs := ds) (some ⟨b, 0, none⟩) ds.length (fun i => css.getD i []) (Nat.le_refl _) hm
      (fun hp => ⟨b, 0, rfl, hb b (by rw [hv1]; rfl), fun i hi => by
        have hci : css[i]? = some css[i] := List.getElem?_eq_getElem (by omega)
        rw [List.getD_eq_getElem?_getD, hci, Option.getD_some]
        refine ⟨hall i _ hci, fun j v hj => ?_⟩
        have hcell := cells_of_block hc
        rw [hcs] at hcell
        have := hcell _ v (flat_get (sz := sz) _ i j _ v hall hci hj)
        rw [← Nat.add_assoc] at this
        exact this⟩)
      (fun i d hd => by
        have hi : i < ds.length := (List.getElem?_eq_some_iff.1 hd).1
        have hci : css[i]? = some css[i] := List.getElem?_eq_getElem (by omega)
        show Rep N F w d (css.getD i [])
        rw [List.getD_eq_getElem?_getD, hci, Option.getD_some]
        exact hels i d _ hd hci)
    exact ⟨_, key, rfl⟩
theorem asData_rep (h : Rel N F0 M0 w0 hv st a w) {x : Operand} {d : D} {ow : Option Nat} (e : asData st (ev st x) = some (d, ow)) {F : Nat → Prop} (hF : ∀ k, Fr F0 w0 hv st w k → F k) (hb : ∀ o, ow = some o → ∀ k, blkOf (hv o) = some k → F k) : RepV N F w d (a.eval x) := by
  have hx := ev_rep h x
  unfold asData at e
  split at e
  · rename_i d' e1
    simp only [Option.some.injEq, Prod.mk.injEq] at e
    obtain ⟨rfl, _⟩ := e
    rw [e1] at hx
    exact RepV.weak hx hF
  · rename_i ob e1
    split at e
    · rename_i d' hd
      simp only [Option.some.injEq, Prod.mk.injEq] at e
      obtain ⟨rfl, rfl⟩ := e
      rw [e1] at hx
      obtain ⟨b, g2, g1⟩ := hx
      rw [g2, ← g1 ⟨_, hd⟩]
      exact box_data h hd hF (hb ob rfl)
    · cases e
  · rename_i ob e1
    split at e
    · rename_i sz e' xs hrow
      simp only [Option.some.injEq, Prod.mk.injEq] at e
      obtain ⟨rfl, rfl⟩ := e
      rw [e1] at hx
      rw [hx ⟨_, hrow⟩]
      exact row_data' h hrow hF (hb ob rfl)
    · cases e
  · rename_i ob lo n e1
    split at e
    · rename_i sz e' xs hrow
      split at e
      · rename_i hle
        simp only [Option.some.injEq, Prod.mk.injEq] at e
        obtain ⟨rfl, rfl⟩ := e
        rw [e1] at hx
        obtain ⟨A, N', c, A', g1, g2, g3⟩ := hx _ _ _ hrow
        obtain ⟨c', h1, h2⟩ := row_data h hrow hle hF (hb ob rfl) (A' := A') (fun A1 N1 c1 e1 hp => by
          rw [g1] at e1
          injection e1 with e2 _ _
          subst e2
          exact g3 (.inl hp))
        rw [g2, ← h1 _ _ _ g1]
        exact h2
      · cases e
    · cases e
  · rename_i ob sz n e1
    split at e
    · rename_i ds hd
      split at e
      · rename_i hc
        simp only [Option.some.injEq, Prod.mk.injEq] at e
        obtain ⟨rfl, rfl⟩ := e
        rw [e1] at hx
        obtain ⟨b, g2, g1⟩ := hx
        rw [g2]
        exact arr_data h hd (g1 ⟨_, hd⟩) hc.1 hc.2.1 hc.2.2 hF (hb ob rfl)
      · cases e
    · cases e
  · cases e
theorem asDatas_rep (h : Rel N F0 M0 w0 hv st a w) {F : Nat → Prop} (hF : ∀ k, Fr F0 w0 hv st w k → F k) : ∀ (xs : List Operand) (ps : List (D × Option Nat)), asDatas st (xs.map (ev st)) = some ps → (∀ o ∈ owners ps, ∀ k, blkOf (hv o) = some k → F k) →
    RepVs N F w (ps.map (·.1)) (xs.map a.eval)
  | [], ps, e, _ => by
    simp only [List.map_nil, asDatas, Option.some.injEq] at e
    subst e
    exact ⟨rfl, fun i d v h1 h2 => by simp at h1⟩
  | x :: xs, ps, e, hb => by
    simp only [List.map_cons, asDatas] at e
    split at e
    · rename_i p ps' e1 e2
      obtain rfl := Option.some.inj e
      obtain ⟨d, ow⟩ := p
      have ih := asDatas_rep h hF xs ps' e2 (fun o ho => hb o (by cases ow <;> simp [owners, ho]))
      have hd := asData_rep h e1 hF (fun o ho => by subst ho; exact hb o (by simp [owners]))
      refine ⟨by simp [ih.1], fun i d' v h1 h2 => ?_⟩
      cases i with
      | zero =>
        simp at h1 h2
        subst h1 h2
        exact hd
      | succ i => exact ih.2 i d' v (by simpa using h1) (by simpa using h2)
    · cases e
theorem allFreeze_mem : ∀ (l : List Nat), allFreeze st l → ∀ o ∈ l, st.mayFreeze o
  | [], _, o, h => by cases h
  | x :: l, hf, o, h => by
    rcases List.mem_cons.1 h with rfl | h
    · exact hf.1
    · exact allFreeze_mem l hf.2 o h
theorem Fr_frz (h : Rel N F0 M0 w0 hv st a w) {l : List Nat} (hf : allFreeze st l) {o : Nat} (ho : o ∈ l) {ob : Ob} (hob : st.obj o = some ob) {k : Nat} (hk : blkOf (hv o) = some k) : Fr F0 w0 hv (st.frz l) w k := by
  have hnp := allFreeze_mem l hf o ho
  have hlt := (h.ob o ob hob).lt k hk
  have hge : w0.heap.size ≤ k := by
    have := h.own o ob k hob hk
    unfold St.mayFreeze at hnp
    rw [hob] at hnp
    cases ob <;> first | exact hnp.elim | exact this
  refine .inr ⟨hge, hlt, fun o' ob' hd hl hk' => ?_⟩
  have hh : ∃ ob2, st.obj o' = some ob2 := by
    rcases frz_cases st l o' with e | ⟨d, e1, e2⟩ | ⟨sz, e, xs, e1, e2⟩
    · exact ⟨ob', e ▸ hd⟩
    · exact ⟨_, e1⟩
    · exact ⟨_, e1⟩
  obtain ⟨ob2, h2⟩ := hh
  have := h.inj o o' ob ob2 k hob h2 hk hk'
  subst this
  rw [frz_obj, if_pos ho] at hd
  unfold St.mayFreeze at hnp
  unfold freeze at hd
  rw [hob] at hnp hd
  cases ob <;> simp only [Option.some.injEq] at hd <;> first | exact hnp.elim | (subst hd; cases hl)
theorem asDatas_owner : ∀ (xs : List X) (ps : List (D × Option Nat)), asDatas st xs = some ps → ∀ o ∈ owners ps, ∃ ob, st.obj o = some ob
  | [], ps, e, o, ho => by simp only [asDatas, Option.some.injEq] at e; subst e; cases ho
  | x :: xs, ps, e, o, ho => by
    simp only [asDatas] at e
    split at e
    · rename_i p ps' e1 e2
      obtain rfl := Option.some.inj e
      obtain ⟨d, ow⟩ := p
      have hcase : ow = some o ∨ o ∈ owners ps' := by
        cases ow with
        | none => exact .inr ho
        | some o' =>
          simp only [owners, List.mem_cons] at ho
          rcases ho with rfl | ho
          · exact .inl rfl
          · exact .inr ho
      rcases hcase with rfl | ho
      · unfold asData at e1
        have hbx : ∀ d, st.box? o = some d → ∃ ob, st.obj o = some ob := fun d hd => by
          unfold St.box? at hd
          cases hh : st.obj o with
          | none => rw [hh] at hd; cases hd
          | some ob => exact ⟨ob, rfl⟩
        have hrw : ∀ r, st.row? o = some r → ∃ ob, st.obj o = some ob := fun d hd => by
          unfold St.row? at hd
          cases hh : st.obj o with
          | none => rw [hh] at hd; cases hd
          | some ob => exact ⟨ob, rfl⟩
        split at e1
        · simp at e1
        · split at e1
          · rename_i hd
            simp only [Option.some.injEq, Prod.mk.injEq] at e1
            obtain ⟨_, rfl⟩ := e1
            exact hbx _ hd
          · cases e1
        · split at e1
          · rename_i hd
            simp only [Option.some.injEq, Prod.mk.injEq] at e1
            obtain ⟨_, rfl⟩ := e1
            exact hrw _ hd
          · cases e1
        · split at e1
          · rename_i hd
            split at e1
            · simp only [Option.some.injEq, Prod.mk.injEq] at e1
              obtain ⟨_, rfl⟩ := e1
              exact hrw _ hd
            · cases e1
          · cases e1
        · split at e1
          · rename_i hd
            split at e1
            · simp only [Option.some.injEq, Prod.mk.injEq] at e1
              obtain ⟨_, rfl⟩ := e1
              exact hbx _ hd
            · cases e1
          · cases e1
        · cases e1
      · exact asDatas_owner xs ps' e2 o ho
    · cases e
theorem res_rep {F : Nat → Prop} {ds : List D} {v : Value} (h : RepRes N F w ds v) : RepX N F hv st w (resX ds) v := by
  have key : ∀ ds, (∃ vs, v = .tuple vs ∧ RepVs N F w ds vs.toList) → RepX N F hv st w (.tup (ds.map .dat)) v := by
    rintro ds ⟨vs, e, h1, h2⟩
    refine ⟨vs, e, by simpa using h1, fun i r u g1 g2 => ?_⟩
    rw [List.getElem?_map, Option.map_eq_some_iff] at g1
    obtain ⟨d, hd, rfl⟩ := g1
    exact h2 i d u hd (by simpa using g2)
  match ds, h with
  | [], h => exact key [] h
  | [d], h => exact h
  | _ :: _ :: _, h => exact key _ h
theorem callFunc_run {f : FuncId} {args : Array Value} (h : callable P f = true) : (callFunc f args).run P w = .ok (.enter f args) w := by
  unfold callable at h
  split at h
  · rename_i fn hf
    simp only [Bool.and_eq_true, bne_iff_ne, ne_eq] at h
    obtain ⟨c, hc⟩ := Option.isSome_iff_exists.1 h.2
    simp [callFunc, hf, h.1, hc]
  · cases h
def CallOp (a : Act) (o : Oper) (f : FuncId) (args : Array Operand) (ts : Array TypeId) : Prop := ∃ y, o.op = .call { callee := .value y, args := args, argTypes := ts } ∧ a.eval y = .func (.func f) #[] #[]
theorem call_run {f : FuncId} {args : Array Operand} {ts : Array TypeId} (ho : CallOp a o f args ts) (hc : callable P f = true) : (execOp a.eval o).run P w = .ok (.enter f (args.toList.map a.eval).toArray) w := by
  obtain ⟨y, ho, hy⟩ := ho
  simp only [execOp, ho, resolve]
  have e : (args.toList.map a.eval).toArray = args.map a.eval := by rw [← Array.toList_map]
  rw [e, hy]
  simp [Deferred.ofValue, invoke, callFunc_run hc]
theorem Fr_new (h : Rel N F0 M0 w0 hv st a w) {w' : World} {M1 : Nat → Prop} (hb : Frame0 M1 w w') (k : Nat) (hk : Fr F0 w0 hv st w k ∨ (w.heap.size ≤ k ∧ k < w'.heap.size)) : Fr F0 w0 hv st w' k := by
  rcases hk with (hb0 | ⟨h1, h2, h3⟩) | ⟨h1, h2⟩
  · exact .inl hb0
  · exact .inr ⟨h1, by have := hb.size; omega, h3⟩
  · refine .inr ⟨by have := h.bel.size; omega, h2, fun o ob hd hl e => ?_⟩
    have := (h.ob o ob hd).lt k e
    omega
theorem lit_res {F F' : Nat → Prop} {ds : List D} {v : Value} (hl : ds.all D.isLit = true) (h : RepRes N F w ds v) : RepRes N F' w ds v := by
  have one : ∀ d u, d.isLit = true → RepV N F w d u → RepV N F' w d u := by
    intro d u hd hu
    cases d with
    | lit x =>
      obtain ⟨rfl, h1⟩ := RepV.lit hu
      exact RepV.of_lit h1
    | _ => cases hd
  have many : ∀ ds vs, ds.all D.isLit = true → RepVs N F w ds vs → RepVs N F' w ds vs := fun ds vs hl h => ⟨h.1, fun i d u h1 h2 => one d u (List.all_eq_true.1 hl d (List.mem_of_getElem? h1)) (h.2 i d u h1 h2)⟩
  match ds, hl, h with
  | [], hl, ⟨vs, e, h⟩ => exact ⟨vs, e, many _ _ hl h⟩
  | [d], hl, h => exact one d v (by simpa using hl) h
  | _ :: _ :: _, hl, ⟨vs, e, h⟩ => exact ⟨vs, e, many _ _ hl h⟩
theorem callV_run {t : Operand} {f : FuncId} {args : Array Operand} {ts : Array TypeId} {vs : Array Value} (ho : o.op = .call { callee := .value t, args := args, argTypes := ts }) (hy : a.eval t = .func (.func f) #[] vs) (hc : callable P f = true) : (execOp a.eval o).run P w = .ok (.enter f (args.toList.map a.eval ++ vs.toList).toArray) w := by
  simp only [execOp, ho, resolve]
  have e : (args.toList.map a.eval ++ vs.toList).toArray = args.map a.eval ++ vs := by rw [← Array.toList_map, ← Array.toList_append]
  rw [e, hy]
  simp [Deferred.ofValue, invoke, callFunc_run hc]
theorem RepVs.append {F : Nat → Prop} {ds es : List D} {vs us : List Value} (h : RepVs N F w ds vs) (k : RepVs N F w es us) : RepVs N F w (ds ++ es) (vs ++ us) := by
  refine ⟨by simp [h.1, k.1], fun i d v g1 g2 => ?_⟩
  by_cases hi : i < ds.length
  · rw [List.getElem?_append_left hi] at g1
    rw [List.getElem?_append_left (by rw [← h.1]; exact hi)] at g2
    exact h.2 i d v g1 g2
  · rw [List.getElem?_append_right (by omega)] at g1
    rw [List.getElem?_append_right (by rw [← h.1]; omega), ← h.1] at g2
    exact k.2 _ d v g1 g2
theorem Rel.okF {F : Nat → Prop} (h : Rel N F0 M0 w0 hv st a w) (hF : ∀ k, F0 k → F k) : N.ok F w := N.okm (fun b hb => ⟨hF b hb, h.bel.block b (h.lt0 b hb).1 (h.lt0 b hb).2⟩) h.df.2
theorem callD_sound {f : FuncId} {vs : List Value} {g : List D → Prop × List D} (hs : SpecD N P f g) (h : Rel N F0 M0 w0 hv st a w) (hrun : (execOp a.eval o).run P w = .ok (.enter f vs.toArray) w)
    {ds : List D} (hp : (g ds).1) {F : Nat → Prop} (hFlt : ∀ k, F k → k < w.heap.size) (hF0 : ∀ k, F0 k → F k) (hrep : RepVs N F w ds vs)
    (hF : (∀ k, F k → Fr F0 w0 hv st w k) ∨ (g ds).2.all D.isLit = true) (hn : ∀ hv' a' w', Rel N F0 M0 w0 hv' (st.put o.dst (resX (g ds).2)) a' w' → next a' w') : Oper.wp P o a w next Q := by
  have hcall := hs ds hp F w vs hFlt (h.okF hF0) hrep
  unfold Oper.wp
  rw [hrun]
  show Calls P f _ w _
  refine hcall.mono ?_
  rintro e w' ⟨v, rfl, hr, hb⟩
  refine hn hv _ _ (h.grow hb ?_)
  rcases hF with hF | hl
  · refine (res_rep hr).mono (fun b hb' => ⟨Fr_new h hb b ?_, rfl⟩) (fun o _ => same_refl st hv o)
    rcases hb' with hb' | hb'
    · exact .inl (hF b hb')
    · exact .inr hb'
  · exact res_rep (lit_res hl hr)
end Go.Proofs.Ytpggfnggffedlaa.Ae

namespace Go.Proofs.Ytpggfnggffedlaa.Ae
open Go Go.RowKit
variable {P : Program} {mf : FuncId → Bool} {tb : FuncId → Option Ct} {N : NR} {F0 : Nat → Prop} {M0 : Nat → Nat → Prop} {w0 : World} {hv : Nat → Value} {st : St} {a : Act} {w : World} {o : Oper} {next : Act → World → Prop} {Q : Exit → Act → World → Prop}
theorem setBoxes_not (st : St) : ∀ (ids : List Nat) (ds : List D) (ob : List (Option Ob)) (o : Nat), o ∉ ids → (St.ups ob (setBoxes st ids ds)).getD o none = ob.getD o none := by
  intro ids ds ob o h
  refine ups_not _ _ _ ?_
  have : ∀ (ids : List Nat) (ds : List D), ∀ p ∈ setBoxes st ids ds, p.1 ∈ ids := by
    intro ids
    induction ids with
    | nil => intro ds p hp; cases ds <;> cases hp
    | cons x ids ih =>
      intro ds p hp
      cases ds with
      | nil => cases hp
      | cons d ds =>
        simp only [setBoxes, List.mem_cons] at hp
        rcases hp with rfl | hp
        · simp
        · exact List.mem_cons_of_mem _ (ih ds p hp)
  exact fun p hp e => h (e ▸ this ids ds p hp)
theorem setBoxes_at (st : St) : ∀ (ids : List Nat) (ds : List D) (ob : List (Option Ob)) (i o : Nat) (d : D), ids.Nodup → ids[i]? = some o → ds[i]? = some d → o < ob.length → (St.ups ob (setBoxes st ids ds)).getD o none = setBox (st.obj o) d
  | [], _, _, i, o, d, _, h, _, _ => by simp at h
  | _ :: _, [], _, i, o, d, _, _, h, _ => by simp at h
  | x :: ids, d0 :: ds, ob, 0, o, d, hnd, h1, h2, hl => by
    simp at h1 h2
    subst h1 h2
    rw [List.nodup_cons] at hnd
    simp only [setBoxes]
    rw [ups_cons, setBoxes_not st ids ds _ x hnd.1, getD_set, if_pos ⟨rfl, hl⟩]
  | x :: ids, d0 :: ds, ob, i + 1, o, d, hnd, h1, h2, hl => by
    rw [List.nodup_cons] at hnd
    simp only [setBoxes]
    rw [ups_cons]
    exact setBoxes_at st ids ds _ i o d hnd.2 (by simpa using h1) (by simpa using h2) (by rw [List.length_set]; exact hl)
def isW (ob : Ob) : Prop := (∃ d, ob = .pbox d) ∨ ∃ d, ob = .box d
theorem setBox_like {ob : Ob} (h : isW ob) (d : D) : ∃ ob', setBox (some ob) d = some ob' ∧ ob.like ob' ∧ (ob' = .pbox d ∨ ob' = .box d) := by
  rcases h with ⟨d0, rfl⟩ | ⟨d0, rfl⟩
  · exact ⟨.pbox d, rfl, trivial, .inl rfl⟩
  · exact ⟨.box d, rfl, trivial, .inr rfl⟩
theorem Rel.wrote {ids bs : List Nat} {ds : List D} {w' : World} (h : Rel N F0 M0 w0 hv st a w) (hb : ∀ (i o : Nat), ids[i]? = some o → ∃ ob b, st.obj o = some ob ∧ isW ob ∧ hv o = .pointer (some ⟨b, 0, none⟩) ∧ bs[i]? = some b) (hnd : ids.Nodup) (hl : ds.length = ids.length) (hlb : bs.length = ids.length)
    (hbel : Frame0 (· ∈ bs) w w') (hin : InBoxes N (fun k => Fr F0 w0 hv st w k ∨ (w.heap.size ≤ k ∧ k < w'.heap.size)) w' bs ds) {dst : Option Nat} {x : X} {v : Value} (hx : RepX N (fun k => Fr F0 w0 hv st w k ∨ (w.heap.size ≤ k ∧ k < w'.heap.size)) hv st w' x v) :
    Rel N F0 M0 w0 hv { (st.put dst x) with ob := St.ups st.ob (setBoxes st ids ds) } (a.put dst v) w' := by
  let st' : St := { (st.put dst x) with ob := St.ups st.ob (setBoxes st ids ds) }
  have hnot : ∀ o, o ∉ ids → St.obj st' o = st.obj o := fun o ho => setBoxes_not st ids ds st.ob o ho
  have hat : ∀ o, o ∈ ids → ∃ (i : Nat) (ob ob' : Ob) (b : Nat) (d : D), ids[i]? = some o ∧ bs[i]? = some b ∧ ds[i]? = some d ∧ st.obj o = some ob ∧ St.obj st' o = some ob' ∧ ob.like ob' ∧ hv o = .pointer (some ⟨b, 0, none⟩) ∧ (ob' = .pbox d ∨ ob' = .box d) := by
    intro o ho
    obtain ⟨i, hi⟩ := List.getElem?_of_mem ho
    obtain ⟨ob, b, h1, h2, h3, h4⟩ := hb i o hi
    have hil : i < ds.length := by rw [hl]; exact (List.getElem?_eq_some_iff.1 hi).1
    have hd := List.getElem?_eq_getElem hil
    obtain ⟨ob', k1, k2, k3⟩ := setBox_like h2 ds[i]
    refine ⟨i, ob, ob', b, ds[i], hi, h4, hd, h1, ?_, k2, h3, k3⟩
    have := setBoxes_at st ids ds st.ob i o ds[i] hnd hi hd (obj_lt h1)
    rw [h1, k1] at this
    exact this
  have hbs : ∀ k, k ∈ bs → ∃ o ob, o ∈ ids ∧ st.obj o = some ob ∧ isW ob ∧ blkOf (hv o) = some k := by
    intro k hk
    obtain ⟨i, hi⟩ := List.getElem?_of_mem hk
    have hil : i < ids.length := by rw [← hlb]; exact (List.getElem?_eq_some_iff.1 hi).1
    obtain ⟨ob, b, h1, h2, h3, h4⟩ := hb i ids[i] (List.getElem?_eq_getElem hil)
    rw [hi] at h4
    obtain rfl := Option.some.inj h4
    exact ⟨ids[i], ob, List.getElem_mem hil, h1, h2, by rw [h3]; rfl⟩
  have hwl : ∀ {ob : Ob}, isW ob → ob.live = true := by rintro ob (⟨d, rfl⟩ | ⟨d, rfl⟩) <;> rfl
  have hFn : ∀ k, Fr F0 w0 hv st w k → k ∉ bs := by
    intro k hk hm
    obtain ⟨o, ob, _, h1, h2, h3⟩ := hbs k hm
    exact Fr_live h h1 (hwl h2) h3 hk
  have hFF : ∀ k, (Fr F0 w0 hv st w k ∨ (w.heap.size ≤ k ∧ k < w'.heap.size)) → Fr F0 w0 hv st' w' k := by
    intro k hk
    rcases Fr_new h hbel k hk with hk' | ⟨h1, h2, h3⟩
    · exact .inl hk'
    · refine .inr ⟨h1, h2, fun o ob hd hlv e => ?_⟩
      by_cases ho : o ∈ ids
      · obtain ⟨i, ob0, ob1, b, d, g1, g2, g3, g4, g5, g6, g7, g8⟩ := hat o ho
        exact h3 o ob0 g4 (like_live g6).1 e
      · rw [hnot o ho] at hd
        exact h3 o ob hd hlv e
  have hF : ∀ b, Fr F0 w0 hv st w b → Fr F0 w0 hv st' w' b ∧ w'.heap[b]? = w.heap[b]? := fun b hb' => ⟨hFF b (.inl hb'), hbel.block b (Fr_lt h b hb') (hFn b hb')⟩
  have hsame : ∀ o, Same st st' hv hv o := by
    intro o
    by_cases ho : o ∈ ids
    · obtain ⟨i, ob0, ob1, b, d, g1, g2, g3, g4, g5, g6, g7, g8⟩ := hat o ho
      refine ⟨fun _ => rfl, fun _ => ?_, fun sz e xs hr => ?_, fun _ => rfl, fun ⟨I, hI⟩ => ?_⟩
      · unfold St.box?
        rw [g4]
        cases ob0 <;> cases ob1 <;> first | exact g6.elim | exact ⟨_, rfl⟩ | (rcases g8 with g8 | g8 <;> cases g8)
      · unfold St.row? at hr
        rw [g5] at hr
        rcases g8 with rfl | rfl <;> cases hr
      · unfold St.mp? at hI
        rw [g5] at hI
        rcases g8 with rfl | rfl <;> cases hI
    · refine ⟨fun _ => rfl, fun hd => ?_, fun sz e xs hr => ?_, fun _ => rfl, fun hI => ?_⟩
      · unfold St.box? at hd ⊢; rw [hnot o ho] at hd; exact hd
      · unfold St.row? at hr ⊢; rw [hnot o ho] at hr; exact ⟨xs, hr⟩
      · unfold St.mp? at hI ⊢; rw [hnot o ho] at hI; exact hI
  refine h.step rfl hbel (fun k hm hk => ?_) hF (fun t o _ => hsame o) (fun o ob hd => ?_) (fun o ob b hd hk => ?_) (fun o o' o1 o2 b h1 h2 => ?_) ?_
  · obtain ⟨o, ob, _, h1, h2, h3⟩ := hbs k hm
    have := h.own o ob k h1 h3
    rcases h2 with ⟨d, rfl⟩ | ⟨d, rfl⟩
    · exact ⟨_, this⟩
    · simp only at this; omega
  · by_cases ho : o ∈ ids
    · obtain ⟨i, ob0, ob1, b, d, g1, g2, g3, g4, g5, g6, g7, g8⟩ := hat o ho
      have hd' : St.obj st' o = some ob := hd
      rw [g5] at hd'
      obtain rfl := Option.some.inj hd'
      obtain ⟨cs, t, k1, k2⟩ := hin.2 i b d g2 g3
      have := k2.weak hFF
      rcases g8 with rfl | rfl
      · exact ⟨b, cs, t, g7, k1, this⟩
      · exact ⟨b, cs, t, g7, k1, this⟩
    · have hd' : St.obj st' o = some ob := hd
      rw [hnot o ho] at hd'
      have hr := h.ob o ob hd'
      refine hr.mono hF (fun k hk => hbel.block k (hr.lt k hk) (fun hm => ?_))
      obtain ⟨o2, ob2, k1, k2, _, k3⟩ := hbs k hm
      have := h.inj o o2 ob ob2 k hd' k2 hk k3
      exact ho (this ▸ k1)
  · by_cases ho : o ∈ ids
    · obtain ⟨i, ob0, ob1, b', d, g1, g2, g3, g4, g5, g6, g7, g8⟩ := hat o ho
      have hd' : St.obj st' o = some ob := hd
      rw [g5] at hd'
      obtain rfl := Option.some.inj hd'
      have := h.own o ob0 b g4 hk
      cases ob0 <;> cases ob1 <;> first | exact g6.elim | exact this
    · have hd' : St.obj st' o = some ob := hd
      rw [hnot o ho] at hd'
      exact h.own o ob b hd' hk
  · have g : ∀ o o1, St.obj st' o = some o1 → ∃ o2, st.obj o = some o2 := by
      intro o o1 hd
      by_cases ho : o ∈ ids
      · obtain ⟨i, ob0, ob1, b', d, g1, g2, g3, g4, g5, g6, g7, g8⟩ := hat o ho
        exact ⟨_, g4⟩
      · rw [hnot o ho] at hd; exact ⟨o1, hd⟩
    obtain ⟨x1, hx1⟩ := g o o1 h1
    obtain ⟨x2, hx2⟩ := g o' o2 h2
    exact h.inj o o' x1 x2 b hx1 hx2
  · exact hx.mono (fun b hb' => ⟨hFF b hb', rfl⟩) (fun o _ => hsame o)
theorem boxesOf_spec : ∀ (ids : List Nat) (ds : List D), boxesOf st ids = some ds → ids.length = ds.length ∧ ∀ (i o : Nat) (d : D), ids[i]? = some o → ds[i]? = some d → st.wbox? o = some d
  | [], ds, e => by simp only [boxesOf, Option.some.injEq] at e; subst e; exact ⟨rfl, fun i o d h => by simp at h⟩
  | x :: ids, ds, e => by
    simp only [boxesOf] at e
    split at e
    · rename_i d ds' e1 e2
      obtain rfl := Option.some.inj e
      obtain ⟨h1, h2⟩ := boxesOf_spec ids ds' e2
      refine ⟨by simp [h1], fun i o d' g1 g2 => ?_⟩
      cases i with
      | zero => simp at g1 g2; subst g1 g2; exact e1
      | succ i => exact h2 i o d' (by simpa using g1) (by simpa using g2)
    · cases e
theorem wbox_isW {o : Nat} {d : D} (h : st.wbox? o = some d) : ∃ ob, st.obj o = some ob ∧ isW ob ∧ (ob = .pbox d ∨ ob = .box d) := by
  unfold St.wbox? at h
  split at h
  · rename_i d' e; obtain rfl := Option.some.inj h; exact ⟨_, e, .inl ⟨_, rfl⟩, .inl rfl⟩
  · rename_i d' e; obtain rfl := Option.some.inj h; exact ⟨_, e, .inr ⟨_, rfl⟩, .inr rfl⟩
  · cases h
theorem asArs_rep (h : Rel N F0 M0 w0 hv st a w) {F : Nat → Prop} (hF : ∀ k, Fr F0 w0 hv st w k → F k) {ids bs : List Nat} (hb : ∀ (i o : Nat), ids[i]? = some o → ∃ ob b, st.obj o = some ob ∧ isW ob ∧ hv o = .pointer (some ⟨b, 0, none⟩) ∧ bs[i]? = some b) :
    ∀ (xs : List Operand) (ps : List (Ar × Option Nat)), asArs st ids (xs.map (ev st)) = some ps → (∀ o ∈ owners ps, ∀ k, blkOf (hv o) = some k → F k) →
    ps.length = xs.length ∧ ∀ (i : Nat) (x : Ar) (v : Value), (ps.map (·.1))[i]? = some x → (xs.map a.eval)[i]? = some v → ArR N F w bs x v
  | [], ps, e, _ => by
    simp only [List.map_nil, asArs, Option.some.injEq] at e
    subst e
    exact ⟨rfl, fun i d v h1 h2 => by simp at h1⟩
  | x :: xs, ps, e, hown => by
    simp only [List.map_cons, asArs] at e
    cases hr : asArs st ids (xs.map (ev st)) with
    | none => rw [hr] at e; cases e
    | some ps' =>
      rw [hr] at e
      simp only at e
      have fin : ∀ (p : Ar × Option Nat), ps = p :: ps' → ArR N F w bs p.1 (a.eval x) → ps.length = (x :: xs).length ∧ ∀ (i : Nat) (y : Ar) (v : Value), (ps.map (·.1))[i]? = some y → ((x :: xs).map a.eval)[i]? = some v → ArR N F w bs y v := by
        rintro p rfl hp
        have ih := asArs_rep h hF hb xs ps' hr (fun o ho => hown o (by
          obtain ⟨y, ow⟩ := p
          cases ow <;> simp [owners, ho]))
        refine ⟨by simp [ih.1], fun i y v g1 g2 => ?_⟩
        cases i with
        | zero => simp at g1 g2; subst g1 g2; exact hp
        | succ i => exact ih.2 i y v (by simpa using g1) (by simpa using g2)
      have hxr := ev_rep h x
      have dat : ∀ d ow, asData st (ev st x) = some (d, ow) → ps = (.dat d, ow) :: ps' → ArR N F w bs (.dat d) (a.eval x) := by
        intro d ow e1 e2
        exact asData_rep h e1 hF (fun o ho k hk => hown o (by rw [e2, ho]; simp [owners]) k hk)
      split at e
      · rename_i ob e1
        split at e
        · rename_i hin
          obtain rfl := Option.some.inj e
          refine fin _ rfl ?_
          have hi : ids[ids.idxOf ob]? = some ob := by
            have := List.idxOf_lt_length_of_mem hin
            rw [List.getElem?_eq_getElem this, List.getElem_idxOf]
          obtain ⟨ob', b, g1, g2, g3, g4⟩ := hb _ _ hi
          rw [e1] at hxr
          have hbx : ∃ d, st.box? ob = some d := by
            unfold St.box?
            rw [g1]
            rcases g2 with ⟨d, rfl⟩ | ⟨d, rfl⟩ <;> exact ⟨d, rfl⟩
          obtain ⟨b', k2, k1⟩ := hxr
          have k1 := k1 hbx
          rw [g3] at k1
          injection k1 with k1
          injection k1 with k1
          injection k1 with k1
          subst k1
          exact ⟨b, g4, k2⟩
        · split at e
          · rename_i d hd
            obtain rfl := Option.some.inj e
            exact fin _ rfl (dat (.ptr d) (some ob) (by rw [e1]; simp only [asData, hd]) rfl)
          · cases e
      · rename_i d e1
        obtain rfl := Option.some.inj e
        exact fin _ rfl (dat d none (by rw [e1]; rfl) rfl)
      · rename_i ob e1
        split at e
        · rename_i sz e' l hrow
          obtain rfl := Option.some.inj e
          exact fin _ rfl (dat _ (some ob) (by rw [e1]; simp only [asData, hrow]) rfl)
        · cases e
      · rename_i ob lo n e1
        split at e
        · rename_i sz e' l hrow
          split at e
          · rename_i hle
            obtain rfl := Option.some.inj e
            exact fin _ rfl (dat _ (some ob) (by rw [e1]; simp only [asData, hrow, if_pos hle]) rfl)
          · cases e
        · cases e
      · cases e
theorem asArs_owner (ids : List Nat) : ∀ (xs : List X) (ps : List (Ar × Option Nat)), asArs st ids xs = some ps → ∀ o ∈ owners ps, (∃ ob, st.obj o = some ob) ∧ (o ∉ ids ∨ ∃ r, st.row? o = some r)
  | [], ps, e, o, ho => by simp only [asArs, Option.some.injEq] at e; subst e; cases ho
  | x :: xs, ps, e, o, ho => by
    simp only [asArs] at e
    cases hr : asArs st ids xs with
    | none => rw [hr] at e; cases e
    | some ps' =>
      rw [hr] at e
      simp only at e
      have ih := asArs_owner ids xs ps' hr o
      have hbx : ∀ o d, st.box? o = some d → ∃ ob, st.obj o = some ob := fun o d hd => by
        unfold St.box? at hd
        cases hh : st.obj o with
        | none => rw [hh] at hd; cases hd
        | some ob => exact ⟨ob, rfl⟩
      have hrw : ∀ o r, st.row? o = some r → ∃ ob, st.obj o = some ob := fun o d hd => by
        unfold St.row? at hd
        cases hh : st.obj o with
        | none => rw [hh] at hd; cases hd
        | some ob => exact ⟨ob, rfl⟩
      split at e
      · split at e
        · obtain rfl := Option.some.inj e; exact ih ho
        · rename_i hin
          split at e
          · rename_i d hd
            obtain rfl := Option.some.inj e
            simp only [owners, List.mem_cons] at ho
            rcases ho with rfl | ho
            · exact ⟨hbx _ _ hd, .inl hin⟩
            · exact ih ho
          · cases e
      · obtain rfl := Option.some.inj e; exact ih ho
      · split at e
        · rename_i hd
          obtain rfl := Option.some.inj e
          simp only [owners, List.mem_cons] at ho
          rcases ho with rfl | ho
          · exact ⟨hrw _ _ hd, .inr ⟨_, hd⟩⟩
          · exact ih ho
        · cases e
      · split at e
        · rename_i hd
          split at e
          · obtain rfl := Option.some.inj e
            simp only [owners, List.mem_cons] at ho
            rcases ho with rfl | ho
            · exact ⟨hrw _ _ hd, .inr ⟨_, hd⟩⟩
            · exact ih ho
          · cases e
        · cases e
      · cases e
theorem resM_rep {F : Nat → Prop} {w' : World} {ids bs : List Nat} (hb : ∀ (i o : Nat), ids[i]? = some o → ∃ b, hv o = .pointer (some ⟨b, 0, none⟩) ∧ bs[i]? = some b) (hlb : bs.length = ids.length) {rs : List Rv} {v : Value} (h : ResR N F w' bs rs v) : RepX N F hv st w' (resM ids rs) v := by
  have one : ∀ r u, RvR N F w' bs r u → RepRv N F hv st w' (r.to ids) u := by
    intro r u hr
    cases r with
    | dat d => exact hr
    | ref i =>
      obtain ⟨b, h1, h2⟩ := hr
      have hil : i < ids.length := by rw [← hlb]; exact (List.getElem?_eq_some_iff.1 h1).1
      have hi := List.getElem?_eq_getElem hil
      obtain ⟨b', g1, g2⟩ := hb i _ hi
      rw [h1] at g2
      obtain rfl := Option.some.inj g2
      simp only [Rv.to, hi]
      exact ⟨b, h2, fun _ => by rw [g1, h2]⟩
  have many : ∀ rs : List Rv, (∃ vs, v = .tuple vs ∧ rs.length = vs.size ∧ ∀ (i : Nat) (r : Rv) (u : Value), rs[i]? = some r → vs[i]? = some u → RvR N F w' bs r u) → RepX N F hv st w' (.tup (rs.map (Rv.to ids))) v := by
    rintro rs ⟨vs, e, h1, h2⟩
    refine ⟨vs, e, by simpa using h1, fun i r u g1 g2 => ?_⟩
    rw [List.getElem?_map, Option.map_eq_some_iff] at g1
    obtain ⟨r0, hr0, rfl⟩ := g1
    exact one r0 u (h2 i r0 u hr0 g2)
  match rs, h with
  | [], h => exact many [] h
  | [r], h =>
    show RepX N F hv st w' (r.to ids).x v
    cases r with
    | dat d => exact h
    | ref i =>
      obtain ⟨b, h1, h2⟩ := h
      have hil : i < ids.length := by rw [← hlb]; exact (List.getElem?_eq_some_iff.1 h1).1
      have hi := List.getElem?_eq_getElem hil
      obtain ⟨b', g1, g2⟩ := hb i _ hi
      rw [h1] at g2
      obtain rfl := Option.some.inj g2
      simp only [Rv.to, hi, Rv.x]
      exact ⟨b, h2, fun _ => g1⟩
  | _ :: _ :: _, h => exact many _ h
theorem callM_sound {f : FuncId} {args : Array Operand} {ts : Array TypeId} {g : List Ar → List D → Prop × List Rv × List D} (hs : SpecM N P f g) (hc : callable P f = true) (h : Rel N F0 M0 w0 hv st a w) (ho : CallOp a o f args ts)
    {ids : List Nat} {ps : List (Ar × Option Nat)} {ds : List D} (e1 : asArs st ids (args.toList.map (ev st)) = some ps) (e2 : boxesOf st ids = some ds) (hp : (g (ps.map (·.1)) ds).1) (hnd : ids.Nodup) (hlen : (g (ps.map (·.1)) ds).2.2.length = ds.length) (hfr : allFreeze st (owners ps))
    (hn : ∀ hv' a' w', Rel N F0 M0 w0 hv' { (st.put o.dst (resM ids (g (ps.map (·.1)) ds).2.1)) with ob := St.ups st.ob (freezes st (owners ps) ++ setBoxes st ids (g (ps.map (·.1)) ds).2.2) } a' w' → next a' w') : Oper.wp P o a w next Q := by
  obtain ⟨hl1, hbx⟩ := boxesOf_spec ids ds e2
  have h1 := h.frz (owners ps)
  have hkeep : ∀ o, o ∈ ids → (st.frz (owners ps)).obj o = st.obj o := by
    intro o' ho'
    rw [frz_obj]
    split
    · rename_i hm
      rcases (asArs_owner ids _ ps e1 o' hm).2 with hh | ⟨r, hr⟩
      · exact absurd ho' hh
      · obtain ⟨i, hi⟩ := List.getElem?_of_mem ho'
        have hil : i < ds.length := by rw [← hl1]; exact (List.getElem?_eq_some_iff.1 hi).1
        have := hbx i o' _ hi (List.getElem?_eq_getElem hil)
        obtain ⟨ob, k1, k2, _⟩ := wbox_isW this
        unfold St.row? at hr
        rw [k1] at hr
        rcases k2 with ⟨d, rfl⟩ | ⟨d, rfl⟩ <;> cases hr
    · rfl
  let bs : List Nat := ids.map fun o => (blkOf (hv o)).getD 0
  have hb : ∀ (i o : Nat), ids[i]? = some o → ∃ ob b d cs t, st.obj o = some ob ∧ isW ob ∧ hv o = .pointer (some ⟨b, 0, none⟩) ∧ bs[i]? = some b ∧ ds[i]? = some d ∧ (ob = .pbox d ∨ ob = .box d) ∧ w.heap[b]? = some (.cells cs t (0, 0)) ∧ Rep N (Fr F0 w0 hv st w) w d cs.toList := by
    intro i o' hi
    have hil : i < ds.length := by rw [← hl1]; exact (List.getElem?_eq_some_iff.1 hi).1
    have hd := List.getElem?_eq_getElem hil
    obtain ⟨ob, k1, k2, k3⟩ := wbox_isW (hbx i o' _ hi hd)
    have hr := h.ob o' ob k1
    have : ∃ b cs t, hv o' = .pointer (some ⟨b, 0, none⟩) ∧ w.heap[b]? = some (.cells cs t (0, 0)) ∧ Rep N (Fr F0 w0 hv st w) w ds[i] cs.toList := by
      rcases k3 with rfl | rfl <;> exact hr
    obtain ⟨b, cs, t, g1, g2, g3⟩ := this
    refine ⟨ob, b, _, cs, t, k1, k2, g1, ?_, hd, k3, g2, g3⟩
    show (ids.map fun o => (blkOf (hv o)).getD 0)[i]? = some b
    rw [List.getElem?_map, hi, Option.map_some, g1]
    rfl
  have hlb : bs.length = ids.length := List.length_map _
  have hb1 : ∀ (i o : Nat), ids[i]? = some o → ∃ ob b, (st.frz (owners ps)).obj o = some ob ∧ isW ob ∧ hv o = .pointer (some ⟨b, 0, none⟩) ∧ bs[i]? = some b := by
    intro i o' hi
    obtain ⟨ob, b, d, cs, t, k1, k2, k3, k4, _⟩ := hb i o' hi
    exact ⟨ob, b, by rw [hkeep o' (List.mem_of_getElem? hi)]; exact k1, k2, k3, k4⟩
  have hwl : ∀ {ob : Ob}, isW ob → ob.live = true := by rintro ob (⟨d, rfl⟩ | ⟨d, rfl⟩) <;> rfl
  have hF0 : ∀ k, Fr F0 w0 hv st w k → Fr F0 w0 hv (st.frz (owners ps)) w k := by
    rintro b (hb0 | ⟨g1, g2, g3⟩)
    · exact .inl hb0
    · refine .inr ⟨g1, g2, fun o ob hd hl => ?_⟩
      rcases frz_cases st (owners ps) o with e | ⟨d, e1, e2⟩ | ⟨sz, e, xs, e1, e2⟩
      · exact g3 o ob (e ▸ hd) hl
      · rw [e2] at hd; obtain rfl := Option.some.inj hd; cases hl
      · rw [e2] at hd; obtain rfl := Option.some.inj hd; cases hl
  have hrep := asArs_rep h (F := Fr F0 w0 hv (st.frz (owners ps)) w) hF0 (ids := ids) (bs := bs) (fun i o' hi => by
    obtain ⟨ob, b, d, cs, t, k1, k2, k3, k4, _⟩ := hb i o' hi
    exact ⟨ob, b, k1, k2, k3, k4⟩) args.toList ps e1 (fun o' ho' k hk => by
    obtain ⟨⟨ob, hob⟩, _⟩ := asArs_owner ids _ ps e1 o' ho'
    exact Fr_frz h hfr ho' hob hk)
  have hbnd : bs.Nodup := by
    refine List.pairwise_iff_getElem.2 (fun i j hi hj hij he => ?_)
    have he : bs[i]? = bs[j]? := by rw [List.getElem?_eq_getElem hi, List.getElem?_eq_getElem hj, he]
    have hi' : i < ids.length := by rw [← hlb]; exact hi
    have hj' : j < ids.length := by rw [← hlb]; exact hj
    obtain ⟨ob, b, d, cs, t, k1, k2, k3, k4, _⟩ := hb i _ (List.getElem?_eq_getElem hi')
    obtain ⟨ob2, b2, d2, cs2, t2, m1, m2, m3, m4, _⟩ := hb j _ (List.getElem?_eq_getElem hj')
    rw [k4, m4] at he
    obtain rfl := Option.some.inj he
    have := h.inj _ _ ob ob2 b k1 m1 (by rw [k3]; rfl) (by rw [m3]; rfl)
    have := (List.getElem_inj hnd).1 this
    omega
  have hcall := hs (ps.map (·.1)) ds hp (Fr F0 w0 hv (st.frz (owners ps)) w) w bs (args.toList.map a.eval) (fun k hk => ⟨Fr_lt h1 k hk, fun hm => by
      obtain ⟨i, hi⟩ := List.getElem?_of_mem hm
      have hi' : i < ids.length := by rw [← hlb]; exact (List.getElem?_eq_some_iff.1 hi).1
      obtain ⟨ob, b, k1, k2, k3, k4⟩ := hb1 i _ (List.getElem?_eq_getElem hi')
      rw [hi] at k4
      obtain rfl := Option.some.inj k4
      exact Fr_live h1 k1 (hwl k2) (by rw [k3]; rfl) hk⟩) (h1.okF fun _ => .inl) hbnd ⟨by rw [hlb, hl1], fun i b d g1 g2 => by
      have hi' : i < ids.length := by rw [← hlb]; exact (List.getElem?_eq_some_iff.1 g1).1
      obtain ⟨ob, b', d', cs, t, k1, k2, k3, k4, k5, k6, k7, k8⟩ := hb i _ (List.getElem?_eq_getElem hi')
      rw [g1] at k4
      rw [g2] at k5
      obtain rfl := Option.some.inj k4
      obtain rfl := Option.some.inj k5
      exact ⟨cs, t, k7, k8.weak hF0⟩⟩ (by rw [List.length_map, List.length_map, hrep.1]) (fun i x v g1 g2 => hrep.2 i x v g1 g2)
  unfold Oper.wp
  rw [call_run ho hc]
  show Calls P f _ w _
  refine hcall.mono ?_
  rintro e w' ⟨v, rfl, hr, hbel, hin⟩
  refine hn hv _ _ ?_
  have hsb : setBoxes st ids (g (ps.map (·.1)) ds).2.2 = setBoxes (st.frz (owners ps)) ids (g (ps.map (·.1)) ds).2.2 := by
    have key : ∀ (ids' : List Nat) (ds' : List D), (∀ o ∈ ids', o ∈ ids) → setBoxes st ids' ds' = setBoxes (st.frz (owners ps)) ids' ds' := by
      intro ids'
      induction ids' with
      | nil => intro ds' _; rfl
      | cons x ids' ih =>
        intro ds' hm
        cases ds' with
        | nil => rfl
        | cons d ds' =>
          simp only [setBoxes]
          rw [hkeep x (hm x (by simp)), ih ds' (fun o ho => hm o (by simp [ho]))]
    exact key ids _ (fun _ h => h)
  have hfin := h1.wrote (dst := o.dst) (x := resM ids (g (ps.map (·.1)) ds).2.1) (v := v) hb1 hnd (by rw [hlen, hl1]) hlb hbel hin (resM_rep (fun i o' hi => by
    obtain ⟨ob, b, k1, k2, k3, k4⟩ := hb1 i o' hi
    exact ⟨b, k3, k4⟩) hlb hr)
  rw [ups_append, hsb]
  have e3 : ((st.frz (owners ps)).put o.dst (resM ids (g (ps.map (·.1)) ds).2.1)).tm = (st.put o.dst (resM ids (g (ps.map (·.1)) ds).2.1)).tm := by cases o.dst <;> rfl
  have e4 : (st.frz (owners ps)).ob = St.ups st.ob (freezes st (owners ps)) := rfl
  rw [e4] at hfin
  have e5 : ∀ (A B : St) (l : List (Option Ob)), A.tm = B.tm → ({ A with ob := l } : St) = { B with ob := l } := by intro A B l h; cases A; cases B; simp_all
  rw [e5 _ _ _ e3] at hfin
  exact hfin
theorem Rel.turnX {s : Nat} {ob ob' : Ob} {b : Nat} {w' : World} {dst : Option Nat} {x : X} {v : Value} (h : Rel N F0 M0 w0 hv st a w) (hs : st.obj s = some ob) (hk : ob.like ob') (hb : blkOf (hv s) = some b) (hbel : Frame0 (fun k => k = b) w w')
    (hob : ObR N (fun k => Fr F0 w0 hv st w k ∨ (w.heap.size ≤ k ∧ k < w'.heap.size)) w' ob' (hv s)) (hx : RepX N (fun k => Fr F0 w0 hv st w k ∨ (w.heap.size ≤ k ∧ k < w'.heap.size)) hv { st with ob := st.ob.set s (some ob') } w' x v) :
    Rel N F0 M0 w0 hv { (st.put dst x) with ob := st.ob.set s (some ob') } (a.put dst v) w' := by
  obtain ⟨l1, l2⟩ := like_live hk
  have hlt := obj_lt hs
  have hobj : ∀ o, St.obj { (st.put dst x) with ob := st.ob.set s (some ob') } o = if o = s then some ob' else st.obj o := by
    intro o
    rw [set_obj]
    by_cases he : o = s
    · simp [he, hlt]
    · simp [he]
  have hFne : ∀ k, Fr F0 w0 hv st w k → k ≠ b := by
    rintro k (hb0 | ⟨_, _, h3⟩) e
    · subst e
      have h1 := h.lt0 k hb0
      have h2 := h.own s ob k hs hb
      cases ob <;> first | exact h1.2 ⟨_, h2⟩ | (simp only at h2; omega)
    · subst e; exact h3 s ob hs l1 hb
  have hM : ∀ k, k = b → k < w0.heap.size → Mb M0 k := by
    rintro k rfl hlt
    have h2 := h.own s ob k hs hb
    cases ob <;> first | exact ⟨_, h2⟩ | (simp only at h2; omega)
  have hFF : ∀ k, (Fr F0 w0 hv st w k ∨ (w.heap.size ≤ k ∧ k < w'.heap.size)) → Fr F0 w0 hv { (st.put dst x) with ob := st.ob.set s (some ob') } w' k := by
    intro k hk'
    rcases Fr_new h hbel k hk' with hb0 | ⟨h1, h2, h3⟩
    · exact .inl hb0
    · refine .inr ⟨h1, h2, fun o o1 hd hl => ?_⟩
      rw [hobj] at hd
      by_cases hos : o = s
      · subst hos; exact h3 o ob hs l1
      · rw [if_neg hos] at hd; exact h3 o o1 hd hl
  have hF : ∀ k, Fr F0 w0 hv st w k → Fr F0 w0 hv { (st.put dst x) with ob := st.ob.set s (some ob') } w' k ∧ w'.heap[k]? = w.heap[k]? := fun k hk' => ⟨hFF k (.inl hk'), hbel.block k (Fr_lt h k hk') (hFne k hk')⟩
  refine h.step rfl hbel hM hF (fun t o _ => ⟨fun _ => rfl, fun hd => ?_, fun sz e xs hr => ?_, fun _ => rfl, fun hI => ?_⟩) (fun o o1 hd => ?_) (fun o o1 k hd hk1 => ?_) (fun o o' o1 o2 k h1 h2 => ?_) ?_
  · unfold St.box? at hd ⊢
    rw [hobj] at hd
    by_cases hos : o = s
    · subst hos
      rw [if_pos rfl] at hd
      rw [hs]
      cases ob <;> cases ob' <;> first | exact hk.elim | exact ⟨_, rfl⟩ | (simp at hd)
    · rw [if_neg hos] at hd; exact hd
  · unfold St.row? at hr ⊢
    rw [hobj] at hr
    by_cases hos : o = s
    · subst hos
      rw [if_pos rfl] at hr
      rw [hs]
      cases ob <;> cases ob' <;> first | exact hk.elim | (simp at hr; done) | skip
      · rename_i sz1 e1 xs1 sz2 e2 xs2
        simp only [Option.some.injEq, Prod.mk.injEq] at hr
        obtain ⟨rfl, rfl, rfl⟩ := hr
        obtain ⟨rfl, rfl⟩ := hk
        exact ⟨xs1, rfl⟩
      · rename_i sz1 e1 cp1 xs1 sz2 e2 cp2 xs2
        simp only [Option.some.injEq, Prod.mk.injEq] at hr
        obtain ⟨rfl, rfl, rfl⟩ := hr
        obtain ⟨rfl, rfl, _⟩ := hk
        exact ⟨xs1, rfl⟩
    · rw [if_neg hos] at hr; exact ⟨xs, hr⟩
  · unfold St.mp? at hI ⊢
    rw [hobj] at hI
    by_cases hos : o = s
    · subst hos
      rw [if_pos rfl] at hI
      rw [hs]
      cases ob <;> cases ob' <;> first | exact hk.elim | exact ⟨_, rfl⟩ | (simp at hI)
    · rw [if_neg hos] at hI; exact hI
  · rw [hobj] at hd
    by_cases hos : o = s
    · subst hos
      rw [if_pos rfl] at hd
      obtain rfl := Option.some.inj hd
      exact hob.mono (fun k hk' => ⟨hFF k hk', rfl⟩) (fun _ _ => rfl)
    · rw [if_neg hos] at hd
      have hr := h.ob o o1 hd
      refine hr.mono hF (fun k hk' => hbel.block k (hr.lt k hk') (fun e => ?_))
      subst e
      exact hos (h.inj o s o1 ob k hd hs hk' hb)
  · rw [hobj] at hd
    by_cases hos : o = s
    · subst hos
      rw [if_pos rfl] at hd
      obtain rfl := Option.some.inj hd
      have := h.own o ob k hs hk1
      cases ob <;> cases ob' <;> first | exact hk.elim | exact this
    · rw [if_neg hos] at hd; exact h.own o o1 k hd hk1
  · have g : ∀ o o1, (if o = s then some ob' else st.obj o) = some o1 → ∃ o2, st.obj o = some o2 := by
      intro o o1 hd
      by_cases hos : o = s
      · subst hos; exact ⟨ob, hs⟩
      · rw [if_neg hos] at hd; exact ⟨o1, hd⟩
    rw [hobj] at h1 h2
    obtain ⟨x1, hx1⟩ := g o o1 h1
    obtain ⟨x2, hx2⟩ := g o' o2 h2
    exact h.inj o o' x1 x2 k hx1 hx2
  · exact hx.mono (fun k hk' => ⟨hFF k hk', rfl⟩) (fun o _ => ⟨fun _ => rfl, fun hd => hd, fun sz e xs hr => ⟨xs, hr⟩, fun _ => rfl, fun hI => hI⟩)
theorem frz_keeps (st : St) (l : List Nat) (hv : Nat → Value) : ∀ k, Fr F0 w0 hv st w k → Fr F0 w0 hv (st.frz l) w k := by
  rintro b (hb0 | ⟨g1, g2, g3⟩)
  · exact .inl hb0
  · refine .inr ⟨g1, g2, fun o ob hd hl => ?_⟩
    rcases frz_cases st l o with e | ⟨d, e1, e2⟩ | ⟨sz, e, xs, e1, e2⟩
    · exact g3 o ob (e ▸ hd) hl
    · rw [e2] at hd; obtain rfl := Option.some.inj hd; cases hl
    · rw [e2] at hd; obtain rfl := Option.some.inj hd; cases hl
theorem wrow_obj {oo sz : Nat} {e : TypeId} {l : List D} (h : st.wrow? oo = some (sz, e, l)) : ∃ o1, st.obj oo = some o1 ∧ (o1 = .row sz e l ∨ ∃ cp, o1 = .prow sz e cp l) := by
  unfold St.wrow? at h
  split at h
  · rename_i hd
    simp only [Option.some.injEq, Prod.mk.injEq] at h
    obtain ⟨rfl, rfl, rfl⟩ := h
    exact ⟨_, hd, .inl rfl⟩
  · rename_i hd
    simp only [Option.some.injEq, Prod.mk.injEq] at h
    obtain ⟨rfl, rfl, rfl⟩ := h
    exact ⟨_, hd, .inr ⟨_, rfl⟩⟩
  · cases h
theorem frz_apply (st : St) (l : List Nat) (dst : Option Nat) (p : Prop) (x : X) (s : Nat) (c : Option Ob) : st.apply dst ⟨p, x, freezes st l ++ [(s, c)]⟩ = { ((st.frz l).put dst x) with ob := (st.frz l).ob.set s c } := by
  unfold St.apply
  rw [ups_append]
  cases dst <;> rfl
theorem callW_sound {f : FuncId} {args : Array Operand} {ts : Array TypeId} {sz : Nat} {e : TypeId} {g : List D → Nat → Nat → List D → Prop × Option Wr × List D} (hs : SpecW N P f sz e g) (hc : callable P f = true) (h : Rel N F0 M0 w0 hv st a w) (ho : CallOp a o f args ts)
    {x0 : Operand} {r : List Operand} (ea : args.toList = x0 :: r) {oo lo n : Nat} (ew : winOf st (ev st x0) = some (oo, lo, n)) {ps : List (D × Option Nat)} (ep : asDatas st (r.map (ev st)) = some ps) (hp : (callW st sz e g oo lo n ps).pre)
    (hn : ∀ hv' a' w', Rel N F0 M0 w0 hv' (st.apply o.dst (callW st sz e g oo lo n ps)) a' w' → next a' w') : Oper.wp P o a w next Q := by
  unfold callW at hp hn
  split at hp
  · rename_i sz' e' l hw
    simp only [hw] at hn
    obtain ⟨hp, rfl, rfl, hl0, hle, hnl, hlen, hno, hfr⟩ := hp
    obtain ⟨o1, hobj, hoo⟩ := wrow_obj hw
    have h1 := h.frz (owners ps)
    have hlv : o1.live = true := by rcases hoo with rfl | ⟨cp, rfl⟩ <;> rfl
    have hkeep : (st.frz (owners ps)).obj oo = some o1 := by rw [frz_obj, if_neg hno]; exact hobj
    have hOb : ∃ css : List (List Value), w.ownsRow 0 e' sz' (hv oo) l.length css.flatten ∧ css.length = l.length ∧ ∀ (i : Nat) (d : D) (cs : List Value), l[i]? = some d → css[i]? = some cs → cs.length = sz' ∧ Rep N (Fr F0 w0 hv st w) w d cs := by
      have := h.ob oo o1 hobj
      rcases hoo with rfl | ⟨cp, rfl⟩
      · exact this
      · obtain ⟨css, h1, h2, h3⟩ := this; exact ⟨css, h1.1, h2, h3⟩
    obtain ⟨css, hown, hcl, hels⟩ := hOb
    have hb : ∃ b c, hv oo = .slice (some ⟨b, 0, none⟩) l.length c := by
      rcases hown.2 with ⟨_, hz⟩ | ⟨b, c, cur, hvv, _⟩
      · omega
      · exact ⟨b, c, hvv⟩
    obtain ⟨b, c, hvb⟩ := hb
    have hblk : blkOf (hv oo) = some b := by rw [hvb]; rfl
    have hrow : st.row? oo = some (sz', e', l) := by unfold St.row?; rw [hobj]; rcases hoo with rfl | ⟨cp, rfl⟩ <;> rfl
    have hval : a.eval x0 = .slice (some ⟨b, lo * sz', none⟩) n (c - lo) := by
      have hx := ev_rep h x0
      unfold winOf at ew
      split at ew
      · rename_i o2 e1
        split at ew
        · rename_i sz2 e2 l2 hw2
          simp only [Option.some.injEq, Prod.mk.injEq] at ew
          obtain ⟨rfl, rfl, rfl⟩ := ew
          rw [hw] at hw2
          simp only [Option.some.injEq, Prod.mk.injEq] at hw2
          obtain ⟨rfl, rfl, rfl⟩ := hw2
          rw [e1] at hx
          rw [hx ⟨_, hrow⟩, hvb]
          simp
        · cases ew
      · rename_i o2 lo2 n2 e1
        split at ew
        · simp only [Option.some.injEq, Prod.mk.injEq] at ew
          obtain ⟨rfl, rfl, rfl⟩ := ew
          rw [e1] at hx
          obtain ⟨A, N', c', A', g1, g2, g3⟩ := hx _ _ _ hrow
          rw [hvb] at g1
          injection g1 with q1 q2 q3
          subst q1 q2 q3
          rw [g2, g3 hnl]
          simp [add_plain]
        · cases ew
      · cases ew
    have hF0 := frz_keeps (F0 := F0) (w0 := w0) (w := w) st (owners ps) hv
    have hrep := asDatas_rep h hF0 r ps ep (fun o' ho' k hk => by
      obtain ⟨ob, hob⟩ := asDatas_owner _ ps ep o' ho'
      exact Fr_frz h hfr ho' hob hk)
    have hcall := hs l lo n (ps.map (·.1)) hp hl0 hle hnl (Fr F0 w0 hv (st.frz (owners ps)) w) w b c (r.map a.eval) (fun k hk => ⟨Fr_lt h1 k hk, fun ee => Fr_live h1 hkeep hlv hblk (ee ▸ hk)⟩) (h1.okF fun _ => .inl)
      ⟨css, by rw [hvb] at hown; exact hown, hcl, fun i d cs g1 g2 => ⟨(hels i d cs g1 g2).1, (hels i d cs g1 g2).2.weak hF0⟩⟩ hrep
    unfold Oper.wp
    rw [call_run ho hc, ea, List.map_cons, hval]
    show Calls P f _ w _
    refine hcall.mono ?_
    rintro ee w' ⟨v, rfl, hr, hbel, hl', hrow'⟩
    refine hn hv _ _ ?_
    rw [frz_apply]
    obtain ⟨o2, hset, hoo2⟩ : ∃ o2, setRow (st.obj oo) (g l lo n (ps.map (·.1))).2.2 = some o2 ∧ ((o1 = .row sz' e' l ∧ o2 = .row sz' e' (g l lo n (ps.map (·.1))).2.2) ∨ ∃ cp, o1 = .prow sz' e' cp l ∧ o2 = .prow sz' e' cp (g l lo n (ps.map (·.1))).2.2 ∧ ∃ b, hv oo = .slice (some ⟨b, 0, none⟩) l.length cp) := by
      rcases hoo with h' | ⟨cp, h'⟩
      · exact ⟨_, by rw [hobj, h']; rfl, .inl ⟨h', rfl⟩⟩
      · have hq := h.ob oo o1 hobj
        rw [h'] at hq
        obtain ⟨_, hq, _⟩ := hq
        exact ⟨_, by rw [hobj, h']; rfl, .inr ⟨cp, h', rfl, hq.2⟩⟩
    rw [hset]
    obtain ⟨css', hown', hcl', hels'⟩ := hrow'
    refine h1.turnX (v := v) hkeep (by rcases hoo2 with ⟨rfl, rfl⟩ | ⟨cp, rfl, rfl, _⟩ <;> first | exact ⟨rfl, rfl⟩ | exact ⟨rfl, rfl, rfl, hl'.symm⟩) hblk hbel ?_ ?_
    · have : ∃ css : List (List Value), w'.ownsRow 0 e' sz' (hv oo) (g l lo n (ps.map (·.1))).2.2.length css.flatten ∧ css.length = (g l lo n (ps.map (·.1))).2.2.length ∧ ∀ (i : Nat) (d : D) (cs : List Value), (g l lo n (ps.map (·.1))).2.2[i]? = some d → css[i]? = some cs → cs.length = sz' ∧ Rep N (fun k => Fr F0 w0 hv (st.frz (owners ps)) w k ∨ (w.heap.size ≤ k ∧ k < w'.heap.size)) w' d cs := by
        refine ⟨css', ?_, hcl', hels'⟩
        rw [hvb, ← hl']
        exact hown'
      rcases hoo2 with ⟨rfl, rfl⟩ | ⟨cp, rfl, rfl, hq⟩
      · exact this
      · obtain ⟨css, h1, h2, h3⟩ := this
        exact ⟨css, ⟨h1, by rw [hl']; exact hq⟩, h2, h3⟩
    · revert hr
      generalize (g l lo n (ps.map (·.1))).2.1 = res
      intro hr
      cases res with
      | none => exact ⟨#[], hr, rfl, fun i r u h1 _ => by simp at h1⟩
      | some q =>
        cases q with
        | dat d => exact hr
        | win lo' n' =>
          intro sz2 e2 xs2 hr2
          have hsz : sz2 = sz' := by
            unfold St.row? at hr2
            rw [show St.obj { st.frz (owners ps) with ob := (st.frz (owners ps)).ob.set oo (some o2) } oo = some o2 from by
              rw [set_obj]; simp [obj_lt hkeep]] at hr2
            rcases hoo2 with ⟨_, rfl⟩ | ⟨cp, _, rfl, _⟩ <;> simp at hr2 <;> exact hr2.1.symm
          subst hsz
          exact ⟨some ⟨b, 0, none⟩, l.length, c, some ⟨b, lo' * sz2, none⟩, hvb, hr, fun _ => by simp [add_plain]⟩
  · exact hp.elim
theorem callO_sound {f : FuncId} {args : Array Operand} {ts : Array TypeId} {sz : Nat} {e : TypeId} {g : List D → Prop × List D} (hs : SpecO N P f sz e g) (hc : callable P f = true) (h : Rel N F0 M0 w0 hv st a w) (ho : CallOp a o f args ts)
    (hno : ∀ s, o.dst = some s → noref st s) (hp : (callO st sz e g o.dst (args.toList.map (ev st))).pre)
    (hn : ∀ hv' a' w', Rel N F0 M0 w0 hv' (st.apply o.dst (callO st sz e g o.dst (args.toList.map (ev st)))) a' w' → next a' w') : Oper.wp P o a w next Q := by
  unfold callO at hp hn
  split at hp
  · rename_i s ps ed ep
    simp only [ed, ep] at hn
    obtain ⟨hp, hfr, hsn, hsl⟩ := hp
    have h1 := h.frz (owners ps)
    have hF0 := frz_keeps (F0 := F0) (w0 := w0) (w := w) st (owners ps) hv
    have hrep := asDatas_rep h hF0 args.toList ps ep (fun o' ho' k hk => by
      obtain ⟨ob, hob⟩ := asDatas_owner _ ps ep o' ho'
      exact Fr_frz h hfr ho' hob hk)
    have hcall := hs (ps.map (·.1)) hp (Fr F0 w0 hv (st.frz (owners ps)) w) w (args.toList.map a.eval) (Fr_lt h1) (h1.okF fun _ => .inl) hrep
    unfold Oper.wp
    rw [call_run ho hc]
    show Calls P f _ w _
    refine hcall.mono ?_
    rintro ee w' ⟨v, rfl, ⟨css, hown, hcl, hels⟩, hbel⟩
    have hs' : (st.frz (owners ps)).obj s = none := by
      rcases frz_cases st (owners ps) s with e | ⟨d, e1, _⟩ | ⟨sz, e, xs, e1, _⟩
      · rw [e, hsn]
      · rw [hsn] at e1; cases e1
      · rw [hsn] at e1; cases e1
    have hlt' : s < (st.frz (owners ps)).ob.length := by
      show s < (St.ups st.ob (freezes st (owners ps))).length
      rw [ups_len]; exact hsl
    obtain ⟨hv', hrel⟩ := h1.new (s := s) (s0 := none) (ob := .row sz e (g (ps.map (·.1))).2) (v := v) (x := .row s) (w' := w') (M1 := fun _ => False) hs' hlt' (hno s ed) hbel (fun _ h => h.elim)
      (fun k hk => by
        left
        rcases hown.2 with ⟨rfl, _⟩ | ⟨g, cap, cur, rfl, hg, _⟩
        · cases hk
        · have : g = k := by simpa [blkOf] using hk
          omega)
      ⟨css, ⟨hown.1, hown.2.imp id (fun ⟨g, cap, cur, q1, q2, q3⟩ => ⟨g, cap, cur, q1, Nat.zero_le _, q3⟩)⟩, hcl, fun i d cs g1 g2 => ⟨(hels i d cs g1 g2).1, (hels i d cs g1 g2).2.weak (fun _ h => h.elim)⟩⟩ trivial (.inr (.inl rfl))
    refine hn hv' _ _ ?_
    rw [frz_apply, ed]
    exact hrel
  · exact hp.elim
theorem callMp_sound {f : FuncId} {args : Array Operand} {ts : Array TypeId} {t : TypeId} {g : List Value → List D → Prop × List D × List Value} (hs : SpecP N P f t g) (hc : callable P f = true) (h : Rel N F0 M0 w0 hv st a w) (ho : CallOp a o f args ts)
    (hp : (callMp st t g (args.toList.map (ev st))).pre) (hn : ∀ hv' a' w', Rel N F0 M0 w0 hv' (st.apply o.dst (callMp st t g (args.toList.map (ev st)))) a' w' → next a' w') : Oper.wp P o a w next Q := by
  unfold callMp at hp hn
  split at hp
  · rename_i x s r e1
    cases hl : args.toList with
    | nil => rw [hl] at e1; cases e1
    | cons y l =>
      rw [hl, List.map_cons] at e1
      simp only [List.cons.injEq] at e1
      obtain ⟨ey, rfl⟩ := e1
      split at hp
      · rename_i t' ks ds eI eds
        rw [hl, List.map_cons, ey] at hn
        simp only [eI, eds] at hn
        obtain ⟨⟨rfl, hmt⟩, hp, hlit⟩ := hp
        have hy := ev_rep h y
        rw [ey] at hy
        have hyv := hy ⟨_, eI⟩
        have hobj : st.obj s = some (.mp t' ks) := by
          unfold St.mp? at eI
          split at eI
          · rename_i t2 k2 hJ; simp only [Option.some.injEq, Prod.mk.injEq] at eI; obtain ⟨rfl, rfl⟩ := eI; exact hJ
          · cases eI
        obtain ⟨b, ob, hblk, hob, hI⟩ := h.ob s _ hobj
        have hvb : hv s = .map (some b) := by
          obtain ⟨b', e⟩ := (hI.map hmt).1
          rw [e] at hblk
          injection hblk with hblk
          rw [e, hblk]
        rw [hvb] at hI
        have hcall := hs ks ds hp (Fr F0 w0 hv st w) w b ob (l.map a.eval) (fun k hk => ⟨Fr_lt h k hk, fun ee => Fr_live h hobj rfl hblk (ee ▸ hk)⟩) (h.okF fun _ => .inl) hob hI (datas_rep h l ds eds)
        unfold Oper.wp
        rw [call_run ho hc, hl, List.map_cons, hyv, hvb]
        show Calls P f _ w _
        refine hcall.mono ?_
        rintro ee w' ⟨v, rfl, hr, hbel, ob', hob', hI'⟩
        refine hn hv _ _ ?_
        have key := h.turnX (dst := o.dst) (x := resX (g ks ds).2.1) (v := v) (s := s) (ob := .mp t' ks) (ob' := .mp t' (g ks ds).2.2) (b := b) (w' := w') hobj trivial hblk ⟨hbel.os, hbel.tape, hbel.output, hbel.size, fun k hk hn => hbel.block k hk hn⟩ ⟨b, ob', hblk, hob', by rw [hvb]; exact hI'⟩ (res_rep (lit_res hlit hr))
        exact key
      · exact hp.elim
  · exact hp.elim
theorem callB_sound {f : FuncId} {args : Array Operand} {ts : Array TypeId} {g : List D → Prop × D} (hs : SpecB N P f g) (hc : callable P f = true) (h : Rel N F0 M0 w0 hv st a w) (ho : CallOp a o f args ts)
    (hno : ∀ s, o.dst = some s → noref st s) (hp : (callB st g o.dst (args.toList.map (ev st))).pre)
    (hn : ∀ hv' a' w', Rel N F0 M0 w0 hv' (st.apply o.dst (callB st g o.dst (args.toList.map (ev st)))) a' w' → next a' w') : Oper.wp P o a w next Q := by
  unfold callB at hp hn
  split at hp
  · rename_i s ps ed ep
    simp only [ed, ep] at hn
    obtain ⟨hp, hfr, hsn, hsl⟩ := hp
    have h1 := h.frz (owners ps)
    have hF0 := frz_keeps (F0 := F0) (w0 := w0) (w := w) st (owners ps) hv
    have hrep := asDatas_rep h hF0 args.toList ps ep (fun o' ho' k hk => by
      obtain ⟨ob, hob⟩ := asDatas_owner _ ps ep o' ho'
      exact Fr_frz h hfr ho' hob hk)
    have hcall := hs (ps.map (·.1)) hp (Fr F0 w0 hv (st.frz (owners ps)) w) w (args.toList.map a.eval) (Fr_lt h1) (h1.okF fun _ => .inl) hrep
    unfold Oper.wp
    rw [call_run ho hc]
    show Calls P f _ w _
    refine hcall.mono ?_
    rintro ee w' ⟨v, rfl, ⟨b, cs, t, rfl, hge, hcell, hrp⟩, hbel⟩
    have hs' : (st.frz (owners ps)).obj s = none := by
      rcases frz_cases st (owners ps) s with e | ⟨d, e1, _⟩ | ⟨sz, e, xs, e1, _⟩
      · rw [e, hsn]
      · rw [hsn] at e1; cases e1
      · rw [hsn] at e1; cases e1
    have hlt' : s < (st.frz (owners ps)).ob.length := by
      show s < (St.ups st.ob (freezes st (owners ps))).length
      rw [ups_len]; exact hsl
    obtain ⟨hv', hrel⟩ := h1.new' (s := s) (s0 := none) (ob := .box (g (ps.map (·.1))).2) (v := .pointer (some ⟨b, 0, none⟩)) (x := .obj s [] 0) (w' := w') (M1 := fun _ => False) hs' hlt' (hno s ed) hbel (fun _ h => h.elim)
      (fun k hk => by
        left
        have : b = k := by simpa [blkOf] using hk
        omega)
      (fun F' q1 q2 _ => ⟨b, cs, t, rfl, hcell, hrp.weak (fun k hk => by
        rcases hk with hk | ⟨k1, k2, k3⟩
        · exact q1 k hk
        · exact q2 k k1 k2 (fun e => k3 (by simpa [blkOf] using e.symm)))⟩) trivial (.inl ⟨rfl, b, rfl⟩)
    refine hn hv' _ _ ?_
    rw [frz_apply, ed]
    exact hrel
  · exact hp.elim
end Go.Proofs.Ytpggfnggffedlaa.Ae

namespace Go.Proofs.Ytpggfnggffedlaa.Ae
open Go Go.RowKit
variable {P : Program} {mf : FuncId → Bool} {tb : FuncId → Option Ct} {N : NR} {F0 : Nat → Prop} {M0 : Nat → Nat → Prop} {w0 : World} {hv : Nat → Value} {st : St} {a : Act} {w : World} {o : Oper} {next : Act → World → Prop} {Q : Exit → Act → World → Prop}
def mkOp : Op → Bool
  | .box _ _ => true
  | .alloc _ => true
  | .makeSlice _ _ _ => true
  | .buildSlice _ _ _ => true
  | .makeMap _ _ => true
  | .range _ _ => true
  | .call { callee := .builtin .append, .. } => true
  | .call { callee := .value (.func _), .. } => true
  | .call { callee := .value (.tmp _), .. } => true
  | _ => false
theorem run_newRow (t : TypeId) (cs : Array Value) : (newRow t cs).run P w = .ok ⟨w.heap.size, 0, none⟩ (w.alloc (.cells cs t)) := rfl
theorem cellsSum_const {sz : Nat} : ∀ (vs : List Value), (∀ v ∈ vs, v.cells.size = sz) → cellsSum vs = vs.length * sz
  | [], _ => by simp [cellsSum]
  | v :: vs, h => by
    simp only [cellsSum, List.length_cons, cellsSum_const vs (fun u hu => h u (by simp [hu])), h v (by simp), Nat.add_mul]
    omega
theorem buildSlice_sound (h : Rel N F0 M0 w0 hv st a w) {t e : TypeId} {n : Nat} {parts : Array (Nat × Operand)} (ho : o.op = .buildSlice t n parts) (hu : P.underlying t = some (.slice e)) {ds : List D} (hrep : RepVs N (Fr F0 w0 hv st w) w ds (parts.toList.map fun p => a.eval p.2))
    (hne : 0 < n) (h1 : parts.toList.map (·.1) = List.range n) (h2 : ∀ d ∈ ds, d.size = P.cellsOf e) (h3 : n * P.cellsOf e ≤ 16777216) (hz : ∃ z, (P.info? e).bind (·.zero) = some z) (h0 : 0 < P.cellsOf e)
    (hn : ∀ hv' a' w', Rel N F0 M0 w0 hv' (st.put o.dst (.dat (.sl (P.cellsOf e) ds))) a' w' → next a' w') : Oper.wp P o a w next Q := by
  obtain ⟨z, hz⟩ := hz
  obtain ⟨i, hi, hz'⟩ := Option.bind_eq_some_iff.1 hz
  have hcs := cellsOf_info hi
  let L : List (Nat × Value) := parts.toList.map fun p => (p.1, a.eval p.2)
  have hLs : L.map (·.2) = parts.toList.map fun p => a.eval p.2 := by simp [L]
  have hLlen : L.length = n := by
    have := congrArg List.length h1
    simp at this
    simp [L, this]
  have hdl : ds.length = n := by rw [hrep.1, ← hLs, List.length_map, hLlen]
  have hLf : L.map (·.1) = List.range' 0 L.length := by
    have e : L.map (·.1) = parts.toList.map (·.1) := by simp [L]
    rw [e, h1, hLlen, List.range_eq_range']
  have hsz : ∀ v ∈ L.map (·.2), v.cells.size = P.cellsOf e := by
    intro v hv'
    rw [hLs] at hv'
    obtain ⟨j, hj⟩ := List.getElem?_of_mem hv'
    have hjl : j < ds.length := by rw [hrep.1]; exact (List.getElem?_eq_some_iff.1 hj).1
    have hdj := List.getElem?_eq_getElem hjl
    have := (hrep.2 j _ v hdj hj).cells.len
    simp only [Array.length_toList] at this
    rw [this]
    exact h2 _ (List.getElem_mem hjl)
  have hfill := fill_parts (fun j => some (j * i.size, i.size)) L 0 [] ((Array.range (n * i.size)).map (z.cells[· % z.cells.size]!)).toList hLf (fun j p hp => by
    have hj := (List.getElem?_eq_some_iff.1 hp).1
    have hps : p.2.cells.size = P.cellsOf e := hsz _ (List.mem_map.2 ⟨p, List.mem_of_getElem? hp, rfl⟩)
    rw [cellsSum_const _ (fun v hv' => hsz v (List.mem_of_mem_take hv')), hps, List.length_take, List.length_map, Nat.min_eq_left (by omega), ← hcs]
    simp) (by
    rw [cellsSum_const _ hsz, List.length_map, hLlen, hcs]
    simp)
  simp only [List.nil_append, Array.toArray_toList] at hfill
  have hr := run_buildSlice (P := P) w t e n (parts.map fun (p : Nat × Operand) => (p.1, a.eval p.2)) _ i z hu hi hz' (by rw [← hcs]; omega) (by rw [← hcs]; have := Nat.mul_pos hne h0; omega) (by
    have e1 : (parts.map fun (p : Nat × Operand) => (p.1, a.eval p.2)).toList = L := by simp [L]
    rw [e1]
    exact hfill)
  have hrun : (execOp a.eval o).run P w = .ok (.value (.slice (some ⟨w.heap.size, 0, none⟩) n n)) (w.alloc (.cells ((L.map (·.2)).flatMap (·.cells.toList)).toArray e)) := by
    simp only [execOp, ho]
    simp only [Sem.run_bind]
    have e2 : (parts.map fun (x : Nat × Operand) => match x with | (i, x) => (i, a.eval x)) = parts.map fun (p : Nat × Operand) => (p.1, a.eval p.2) := rfl
    rw [e2, hr]
    rfl
  refine wp_value hrun (hn hv _ _ (h.grow (frame_alloc w _) ?_))
  have hnew : Fr F0 w0 hv st (w.alloc (.cells ((L.map (·.2)).flatMap (·.cells.toList)).toArray e)) w.heap.size := by
    refine .inr ⟨h.bel.size, by simp, fun o' ob hd' hl hk => ?_⟩
    have := (h.ob o' ob hd').lt _ hk
    omega
  have hF : ∀ b, Fr F0 w0 hv st w b → Fr F0 w0 hv st (w.alloc (.cells ((L.map (·.2)).flatMap (·.cells.toList)).toArray e)) b ∧ (w.alloc (.cells ((L.map (·.2)).flatMap (·.cells.toList)).toArray e)).heap[b]? = w.heap[b]? :=
    fun b hb => ⟨Fr_new h (frame_alloc w _) b (.inl hb), (frame_alloc w _).block b (Fr_lt h b hb) (fun h => h)⟩
  have hall : ∀ (k : Nat) (cs : List Value), ((L.map (·.2)).map (·.cells.toList))[k]? = some cs → cs.length = P.cellsOf e := fun k cs hk => by
    rw [List.getElem?_map, Option.map_eq_some_iff] at hk
    obtain ⟨v, hv', rfl⟩ := hk
    simpa using hsz v (List.mem_of_getElem? hv')
  have hget : ∀ j, j < n → ∃ v, (L.map (·.2))[j]? = some v := fun j hj => ⟨_, List.getElem?_eq_getElem (by rw [List.length_map, hLlen]; exact hj)⟩
  have key := Rep.sl (N := N) (F := Fr F0 w0 hv st (w.alloc (.cells ((L.map (·.2)).flatMap (·.cells.toList)).toArray e))) (w := w.alloc (.cells ((L.map (·.2)).flatMap (·.cells.toList)).toArray e)) (sz := P.cellsOf e) (xs := ds) (some ⟨w.heap.size, 0, none⟩) n
    (fun j => (((L.map (·.2)).map (·.cells.toList))[j]?).getD []) (by omega) (by
      have : n * 1 ≤ n * P.cellsOf e := Nat.mul_le_mul_left _ h0
      simp only [maxLen]; omega) (fun hp => ⟨w.heap.size, 0, rfl, hnew, fun j hj => by
      rw [hdl] at hj
      obtain ⟨v, hv'⟩ := hget j hj
      have hc : ((L.map (·.2)).map (·.cells.toList))[j]? = some v.cells.toList := by rw [List.getElem?_map, hv']; rfl
      rw [hc, Option.getD_some]
      refine ⟨hall j _ hc, fun k u hk => ?_⟩
      have := flat_get (sz := P.cellsOf e) _ j k _ u hall hc hk
      rw [← List.flatMap_def] at this
      rw [Nat.zero_add]
      simp only [World.cell?, heap_alloc_new]
      simpa using this⟩) (fun j d hj => by
      have hjl : j < n := by rw [← hdl]; exact (List.getElem?_eq_some_iff.1 hj).1
      obtain ⟨v, hv'⟩ := hget j hjl
      show Rep N _ _ d (((L.map (·.2)).map (·.cells.toList))[j]?.getD [])
      rw [List.getElem?_map, hv']
      rw [hLs] at hv'
      exact (hrep.2 j d v hj hv').cells.mono hF)
  rw [hdl] at key
  exact ⟨_, key, rfl⟩
theorem buildRow_sound (h : Rel N F0 M0 w0 hv st a w) {t e : TypeId} {n : Nat} {parts : Array (Nat × Operand)} (ho : o.op = .buildSlice t n parts) (hu : P.underlying t = some (.slice e)) {ds : List D} (hrep : RepVs N (Fr F0 w0 hv st w) w ds (parts.toList.map fun p => a.eval p.2))
    (hne : 0 < n) (h1 : parts.toList.map (·.1) = List.range n) (h2 : ∀ d ∈ ds, d.size = P.cellsOf e) (h3 : n * P.cellsOf e ≤ 16777216) (hz : ∃ z, (P.info? e).bind (·.zero) = some z) (h0 : 0 < P.cellsOf e)
    {k : Nat} (hd : o.dst = some k) (hnk : noref st k) (p7 : st.obj k = none) (p8 : k < st.ob.length)
    (hn : ∀ hv' a' w', Rel N F0 M0 w0 hv' { (st.put (some k) (.row k)) with ob := st.ob.set k (some (.row (P.cellsOf e) e ds)) } a' w' → next a' w') : Oper.wp P o a w next Q := by
  obtain ⟨z, hz⟩ := hz
  obtain ⟨i, hi, hz'⟩ := Option.bind_eq_some_iff.1 hz
  have hcs := cellsOf_info hi
  let L : List (Nat × Value) := parts.toList.map fun p => (p.1, a.eval p.2)
  have hLs : L.map (·.2) = parts.toList.map fun p => a.eval p.2 := by simp [L]
  have hLlen : L.length = n := by
    have := congrArg List.length h1
    simp at this
    simp [L, this]
  have hdl : ds.length = n := by rw [hrep.1, ← hLs, List.length_map, hLlen]
  have hLf : L.map (·.1) = List.range' 0 L.length := by
    have e : L.map (·.1) = parts.toList.map (·.1) := by simp [L]
    rw [e, h1, hLlen, List.range_eq_range']
  have hsz : ∀ v ∈ L.map (·.2), v.cells.size = P.cellsOf e := by
    intro v hv'
    rw [hLs] at hv'
    obtain ⟨j, hj⟩ := List.getElem?_of_mem hv'
    have hjl : j < ds.length := by rw [hrep.1]; exact (List.getElem?_eq_some_iff.1 hj).1
    have hdj := List.getElem?_eq_getElem hjl
    have := (hrep.2 j _ v hdj hj).cells.len
    simp only [Array.length_toList] at this
    rw [this]
    exact h2 _ (List.getElem_mem hjl)
  have hfill := fill_parts (fun j => some (j * i.size, i.size)) L 0 [] ((Array.range (n * i.size)).map (z.cells[· % z.cells.size]!)).toList hLf (fun j p hp => by
    have hj := (List.getElem?_eq_some_iff.1 hp).1
    have hps : p.2.cells.size = P.cellsOf e := hsz _ (List.mem_map.2 ⟨p, List.mem_of_getElem? hp, rfl⟩)
    rw [cellsSum_const _ (fun v hv' => hsz v (List.mem_of_mem_take hv')), hps, List.length_take, List.length_map, Nat.min_eq_left (by omega), ← hcs]
    simp) (by
    rw [cellsSum_const _ hsz, List.length_map, hLlen, hcs]
    simp)
  simp only [List.nil_append, Array.toArray_toList] at hfill
  have hr := run_buildSlice (P := P) w t e n (parts.map fun (p : Nat × Operand) => (p.1, a.eval p.2)) _ i z hu hi hz' (by rw [← hcs]; omega) (by rw [← hcs]; have := Nat.mul_pos hne h0; omega) (by
    have e1 : (parts.map fun (p : Nat × Operand) => (p.1, a.eval p.2)).toList = L := by simp [L]
    rw [e1]
    exact hfill)
  have hrun : (execOp a.eval o).run P w = .ok (.value (.slice (some ⟨w.heap.size, 0, none⟩) n n)) (w.alloc (.cells ((L.map (·.2)).flatMap (·.cells.toList)).toArray e)) := by
    simp only [execOp, ho]
    simp only [Sem.run_bind]
    have e2 : (parts.map fun (x : Nat × Operand) => match x with | (i, x) => (i, a.eval x)) = parts.map fun (p : Nat × Operand) => (p.1, a.eval p.2) := rfl
    rw [e2, hr]
    rfl
  have hF : ∀ b, Fr F0 w0 hv st w b → Fr F0 w0 hv st w b ∧ (w.alloc (.cells ((L.map (·.2)).flatMap (·.cells.toList)).toArray e)).heap[b]? = w.heap[b]? :=
    fun b hb => ⟨hb, (frame_alloc w _).block b (Fr_lt h b hb) (fun h => h)⟩
  have hfl : ((L.map (·.2)).flatMap (·.cells.toList)).length = n * P.cellsOf e := by
    have := cellsSum_const _ hsz
    rw [List.length_map, hLlen] at this
    rw [← this]
    clear this hsz hLs hfill hr hrun hF
    generalize L.map (·.2) = vs
    induction vs with
    | nil => rfl
    | cons v vs ih => simp [cellsSum, ih]
  obtain ⟨hv', hrel⟩ := h.new (s := k) (s0 := none) (ob := .row (P.cellsOf e) e ds) (v := .slice (some ⟨w.heap.size, 0, none⟩) n n) (x := .row k) (w' := w.alloc (.cells ((L.map (·.2)).flatMap (·.cells.toList)).toArray e)) (M1 := fun _ => False) p7 p8 hnk (frame_alloc w _) (fun _ h => h.elim)
    (fun k hk => by left; simp only [blkOf, Option.some.injEq] at hk; omega) ⟨(L.map (·.2)).map (·.cells.toList), by
      rw [← List.flatMap_def, hdl]
      exact ownsRow_new _ hfl (Nat.le_refl _) (by
        have : n * 1 ≤ n * P.cellsOf e := Nat.mul_le_mul_left _ h0
        simp only [maxLen]; omega) (by simpa using hfl) (by rw [← hfl]; exact List.take_length), by rw [List.length_map, List.length_map, hLlen, hdl], fun j d cs g1 g2 => by
        rw [List.getElem?_map, Option.map_eq_some_iff] at g2
        obtain ⟨v, hv', rfl⟩ := g2
        refine ⟨by simpa using hsz v (List.mem_of_getElem? hv'), ?_⟩
        rw [hLs] at hv'
        exact (hrep.2 j d v g1 hv').cells.mono hF⟩ trivial (.inr (.inl rfl))
  refine wp_value hrun (hn hv' _ _ ?_)
  rw [hd]
  exact hrel
end Go.Proofs.Ytpggfnggffedlaa.Ae
