/- Texts put together, in the order in which they build: R1, R2, R3, T9, T15, T16, T17. No condition. -/
import Derived.Test.YtlniifhdimaliaaGreatZ5
import Derived.OpenShut
import Derived.ChangeArms
import Derived.WideShapes
set_option linter.unusedVariables false
set_option linter.unusedSimpArgs false
/-! What is handed to a law, read as data: from the walk over a value in memory. No condition. -/
namespace Go.Proofs.YtlniifhdimaliaaGreat.Ae
open Go

/-- Data of a type. -/
def shp (P : Program) : Nat → TypeId → D → Prop
  | 0, _, _ => False
  | n + 1, t, d => match P.underlying t with
    | some .bool => ∃ b, d = .lit (.bool b)
    | some (.int k) => ∃ x, d = .lit (.int k x) ∧ (Lit.int k x).wf = true
    | some .string => ∃ s : ByteArray, d = .lit (.string s) ∧ s.size ≤ maxLen
    | some (.struct fs) => ∃ ds, d = .agg ds ∧ ds.length = fs.toList.length ∧ ∀ (i : Nat) (f : Field) (x : D), fs.toList[i]? = some f → ds[i]? = some x → shp P n f.type x
    | some (.slice e) => ∃ xs, d = .sl (P.cellsOf e) xs ∧ xs.length ≤ maxLen ∧ ∀ x ∈ xs, shp P n e x
    | _ => False
/-- A struct's fields lie one behind another. -/
def layF (P : Program) : List Field → Nat → Nat → Bool
  | [], o, c => o == c
  | f :: fs, o, c => f.offset == o && layF P fs (o + P.cellsOf f.type) c
def layT (P : Program) : Nat → TypeId → Bool
  | 0, _ => false
  | n + 1, t => match P.underlying t with
    | some .bool | some (.int _) | some .string => true
    | some (.struct fs) => layF P fs.toList 0 (P.cellsOf t) && fs.toList.all fun f => layT P n f.type
    | some (.slice e) => Nat.blt 0 (P.cellsOf e) && layT P n e
    | _ => false

theorem list_of {α : Type} {p : Nat → α → Prop} : ∀ n : Nat, (∀ i, i < n → ∃ d, p i d) → ∃ l : List α, l.length = n ∧ ∀ (i : Nat) (d : α), l[i]? = some d → p i d
  | 0, _ => ⟨[], rfl, fun i d h => by simp at h⟩
  | n + 1, h => by
    obtain ⟨d0, h0⟩ := h 0 (by omega)
    obtain ⟨l, hl, hp⟩ := list_of (p := fun i => p (i + 1)) n (fun i hi => h (i + 1) (by omega))
    refine ⟨d0 :: l, by simp [hl], fun i d hd => ?_⟩
    cases i with
    | zero => simp at hd; subst hd; exact h0
    | succ i => exact hp i d (by simpa using hd)
theorem fields_rep {N : NR} {F : Nat → Prop} {w : World} {P : Program} {n : Nat} : ∀ (l : List Field) (o c : Nat) (cs : List Value), layF P l o c = true → cs.length = c - o → o ≤ c →
    (∀ (i : Nat) (f : Field), l[i]? = some f → ∃ d, Rep N F w d ((cs.drop (f.offset - o)).take (P.cellsOf f.type)) ∧ shp P n f.type d ∧ ((cs.drop (f.offset - o)).take (P.cellsOf f.type)).length = P.cellsOf f.type) →
    ∃ (ds : List D) (css : List (List Value)), css.flatten = cs ∧ css.length = ds.length ∧ ds.length = l.length ∧ (∀ (i : Nat) (d : D) (x : List Value), ds[i]? = some d → css[i]? = some x → Rep N F w d x) ∧ ∀ (i : Nat) (f : Field) (x : D), l[i]? = some f → ds[i]? = some x → shp P n f.type x
  | [], o, c, cs, hl, hc, ho, h => by
    simp only [layF, beq_iff_eq] at hl
    subst hl
    rw [Nat.sub_self] at hc
    exact ⟨[], [], (List.eq_nil_of_length_eq_zero hc).symm, rfl, rfl, fun i d x h => by simp at h, fun i f x h => by simp at h⟩
  | f :: l, o, c, cs, hl, hc, ho, h => by
    simp only [layF, Bool.and_eq_true, beq_iff_eq] at hl
    obtain ⟨rfl, hl⟩ := hl
    obtain ⟨d0, r0, s0, e0⟩ := h 0 f rfl
    rw [Nat.sub_self, List.drop_zero] at r0 e0
    have hle : P.cellsOf f.type ≤ cs.length := by
      have := List.length_take_le (P.cellsOf f.type) cs
      rw [List.length_take] at e0
      omega
    have mono : ∀ (l : List Field) (o : Nat), layF P l o c = true → o ≤ c ∧ ∀ g ∈ l, o ≤ g.offset := by
      intro l
      induction l with
      | nil => intro o h; simp only [layF, beq_iff_eq] at h; exact ⟨by omega, fun g hg => by simp at hg⟩
      | cons g l ih =>
        intro o h
        simp only [layF, Bool.and_eq_true, beq_iff_eq] at h
        obtain ⟨i1, i2⟩ := ih _ h.2
        refine ⟨by omega, fun g' hg => ?_⟩
        rcases List.mem_cons.1 hg with rfl | hg
        · omega
        · have := i2 g' hg; omega
    have mo := mono l _ hl
    obtain ⟨ds, css, h1, h2, h3, h4, h5⟩ := fields_rep l (f.offset + P.cellsOf f.type) c (cs.drop (P.cellsOf f.type)) hl (by rw [List.length_drop, hc]; omega) mo.1 (fun i g hg => by
      obtain ⟨d, r, s, e⟩ := h (i + 1) g (by simpa using hg)
      have hgo := mo.2 g (List.mem_of_getElem? hg)
      rw [List.drop_drop]
      have e1 : P.cellsOf f.type + (g.offset - (f.offset + P.cellsOf f.type)) = g.offset - f.offset := by omega
      rw [e1]
      exact ⟨d, r, s, e⟩)
    refine ⟨d0 :: ds, cs.take (P.cellsOf f.type) :: css, by rw [List.flatten_cons, h1, List.take_append_drop], by simp [h2], by simp [h3], fun i d x hd hx => ?_, fun i g x hg hx => ?_⟩
    · cases i with
      | zero => simp at hd hx; subst hd hx; exact r0
      | succ i => exact h4 i d x (by simpa using hd) (by simpa using hx)
    · cases i with
      | zero => simp at hg hx; subst hg hx; exact s0
      | succ i => exact h5 i g x (by simpa using hg) (by simpa using hx)

theorem layF_in {P : Program} {c : Nat} : ∀ (l : List Field) (o : Nat), layF P l o c = true → o ≤ c ∧ ∀ f ∈ l, f.offset + P.cellsOf f.type ≤ c
  | [], o, h => by simp only [layF, beq_iff_eq] at h; exact ⟨by omega, fun f hf => by simp at hf⟩
  | g :: l, o, h => by
    simp only [layF, Bool.and_eq_true, beq_iff_eq] at h
    obtain ⟨i1, i2⟩ := layF_in l _ h.2
    refine ⟨by omega, fun f hf => ?_⟩
    rcases List.mem_cons.1 hf with rfl | hf
    · omega
    · exact i2 f hf
theorem trod_cells {P : Program} {l : List Field} {c i : Nat} {f : Field} {cs : List Value} (hl : layF P l 0 c = true) (hlen : cs.length = c) (hi : l[i]? = some f) : ((cs.drop f.offset).take (P.cellsOf f.type)).length = P.cellsOf f.type := by
  have := (layF_in l 0 hl).2 f (List.mem_of_getElem? hi)
  rw [List.length_take, List.length_drop]
  omega
/-- What is walked over can be read as data. -/
theorem rep_of_trod {N : NR} {F : Nat → Prop} {H : Type} {enc : TypeId × Value → H} {P : Program} {w : World} {base : Nat} {sp : Nat → Bool} {held : Bool} (hF : ∀ b, base ≤ b → b < w.heap.size → F b) :
    ∀ (n : Nat) {m : Nat} {t : TypeId} {cs : List Value} {x : DataW H × List MemPlace}, layT P n t = true → DataW.trod enc P w base sp held m t cs = some x → ∃ d, Rep N F w d cs ∧ shp P n t d
  | 0, m, t, cs, x, hl, h => by simp [layT] at hl
  | n + 1, m, t, cs, x, hl, h => by
    simp only [layT] at hl
    simp only [shp]
    split at hl
    · rename_i hu
      obtain ⟨b, rfl, _⟩ := DataW.trod_bool hu h
      exact ⟨_, .lit rfl, by exact ⟨b, rfl⟩⟩
    · rename_i k hu
      obtain ⟨b, rfl, _, hw⟩ := DataW.trod_int hu h
      exact ⟨_, .lit rfl, by exact ⟨b, rfl, hw⟩⟩
    · rename_i hu
      obtain ⟨b, rfl, _, hw⟩ := DataW.trod_string hu h
      exact ⟨_, .lit rfl, by exact ⟨b, rfl, hw⟩⟩
    · rename_i fs hu
      obtain ⟨xs, m', _, _, hlen, hxs, hf⟩ := DataW.trod_struct hu h
      rw [Bool.and_eq_true] at hl
      obtain ⟨ds, css, h1, h2, h3, h4, h5⟩ := fields_rep (N := N) (F := F) (w := w) (n := n) fs.toList 0 (P.cellsOf t) cs hl.1 (by omega) (by omega) (fun i f hfi => by
        have hi : fs[i]? = some f := by simpa using hfi
        have hlt : i < xs.length := by rw [hxs]; exact (Array.getElem?_eq_some_iff.1 hi).1
        have hx := hf i f hi
        rw [List.getElem?_eq_getElem hlt] at hx
        obtain ⟨d, r, s⟩ := rep_of_trod hF n (List.all_eq_true.1 hl.2 f (List.mem_of_getElem? hfi)) hx
        exact ⟨d, by simpa using r, s, by
          rw [Nat.sub_zero]
          exact trod_cells hl.1 hlen hfi⟩)
      subst h1
      exact ⟨.agg ds, .agg h2 h4, by exact ⟨ds, rfl, h3, h5⟩⟩
    · rename_i e hu
      rw [Bool.and_eq_true, Nat.blt_eq] at hl
      rcases DataW.trod_slice hu h with ⟨rfl, _⟩ | ⟨a, len, cap, elems, rest, m', _, rfl, _, hb, hlc, hcm, hel, hget, _, _⟩
      · exact ⟨.sl (P.cellsOf e) [], .sl none 0 (fun _ => []) (by simp) (by simp) (fun h => by simp at h) (fun i d h => by simp at h), by exact ⟨[], rfl, by simp, fun x hx => by simp at hx⟩⟩
      · have key : ∀ i, i < len → ∃ es, w.cells? base (a.add (i * P.cellsOf e)) (P.cellsOf e) = some es ∧ ∃ d, Rep N F w d es ∧ shp P n e d := by
          intro i hi
          have := hget i hi
          rw [List.getElem?_eq_getElem (by omega)] at this
          obtain ⟨es, h1, h2⟩ := Option.bind_eq_some_iff.1 this
          exact ⟨es, h1, rep_of_trod hF n hl.2 h2⟩
        obtain ⟨xs, hx1, hx2⟩ := list_of (p := fun i d => Rep N F w d ((w.cells? base (a.add (i * P.cellsOf e)) (P.cellsOf e)).getD []) ∧ shp P n e d) len (fun i hi => by
          obtain ⟨es, h1, d, h2, h3⟩ := key i hi
          exact ⟨d, by rw [h1]; exact h2, h3⟩)
        have hsl : Rep N F w (.sl (P.cellsOf e) xs) [.slice (some a) xs.length cap] := by
          refine .sl (some a) cap (fun i => (w.cells? base (a.add (i * P.cellsOf e)) (P.cellsOf e)).getD []) (by omega) hcm (fun hp => ?_) (fun i d hd => (hx2 i d hd).1)
          obtain ⟨es0, h0, _⟩ := key 0 (by omega)
          obtain ⟨_, l0, c0⟩ := World.cells?_some h0
          have c00 := c0 0 hl.1
          have ha0 : ∀ k, (a.add k).block = a.block := by intro k; unfold Addr.add; split <;> rfl
          have hv : ∃ v, w.cell? a = some v := by
            have : (a.add (0 * P.cellsOf e)).add 0 = a := by simp [Addr.add]
            rw [this] at c00
            rw [c00]
            exact ⟨_, List.getElem?_eq_getElem (by omega)⟩
          obtain ⟨v, hv⟩ := hv
          have hspot : a.spot = none ∧ a.block < w.heap.size := by
            unfold World.cell? at hv
            cases hh : w.heap[a.block]? with
            | none => rw [hh] at hv; simp at hv
            | some ob =>
              refine ⟨?_, (Array.getElem?_eq_some_iff.1 hh).1⟩
              rw [hh] at hv
              cases ob <;> simp at hv
              exact hv.1
          have hae : a = ⟨a.block, a.off, none⟩ := by rw [← hspot.1]
          refine ⟨a.block, a.off, by rw [← hae], hF _ hb hspot.2, fun i hi => ?_⟩
          obtain ⟨es, h1, _⟩ := key i (by omega)
          obtain ⟨_, l1, c1⟩ := World.cells?_some h1
          rw [h1, Option.getD_some]
          refine ⟨l1, fun j v hj => ?_⟩
          have hj' : j < P.cellsOf e := by have := (List.getElem?_eq_some_iff.1 hj).1; omega
          have := c1 j hj'
          rw [hj] at this
          rw [← this]
          congr 1
          rw [hae]
          unfold Addr.add
          by_cases z1 : i * P.cellsOf e = 0 <;> by_cases z2 : j = 0 <;> simp [z1, z2] <;> omega
        rw [hx1] at hsl
        exact ⟨.sl (P.cellsOf e) xs, hsl, by exact ⟨xs, rfl, by omega, fun x hx => by
          obtain ⟨i, hi⟩ := List.getElem?_of_mem hx
          exact (hx2 i x hi).2⟩⟩
    · simp at hl
end Go.Proofs.YtlniifhdimaliaaGreat.Ae

/-! A law's call with whatever is handed to it, from its contract; values handed to a law, read as data. No condition. -/
namespace Go.Proofs.YtlniifhdimaliaaGreat.Ae
open Go Go.RowKit Go.WideShapes

/-- A law's call, its arguments lying in memory. -/
theorem law_callsM {f : FuncId} {g : List D → Prop × List D} (h : SpecD NF Tryz.prog f g) {ds : List D} (hp : (g ds).1) (hr : (g ds).2 = [boolD true]) {vs : List Value} {w : World} (hrep : RepVs NF (fun b => b < w.heap.size) w ds vs) :
    Calls Tryz.prog f vs.toArray w fun e w' => e = .returned (.bool true) ∧ Below w.heap.size w w' := by
  refine (h ds hp (fun b => b < w.heap.size) w vs (fun k hk => hk) hrep).mono fun e w' ⟨v, he, hv, hfr⟩ => ?_
  rw [hr] at hv
  have hv : RepV NF _ w' (.lit (.bool true)) v := hv
  obtain ⟨rfl, _⟩ := RepV.lit hv
  exact ⟨he, ⟨hfr.os, hfr.tape, hfr.output, hfr.size, fun k hk => hfr.block k hk (fun h => h)⟩⟩
theorem repV_ok {F : Nat → Prop} {H : Type} {enc : TypeId × Value → H} {P : Program} {w : World} {base : Nat} {sp : Nat → Bool} {held : Bool} (hF : ∀ b, base ≤ b → b < w.heap.size → F b)
    {n : Nat} {t : TypeId} {v : Value} {r : Reach} {b0 : Nat} {x : DataW H × List MemPlace} (hl : layT P n t = true) (hv : Value.okWide P w r b0 t v) {m : Nat} (h : DataW.trod enc P w base sp held m t v.cells.toList = some x) :
    ∃ d, RepV NF F w d v ∧ shp P n t d := by
  obtain ⟨d, hr, hs⟩ := rep_of_trod (N := NF) (F := F) hF n hl h
  refine ⟨d, ?_, hs⟩
  cases n with
  | zero => simp [layT] at hl
  | succ n =>
    simp only [layT] at hl
    simp only [shp] at hs
    have one : d.isAgg = false → v.cells = #[v] → RepV NF F w d v := fun h1 h2 => ⟨[v], by rw [h2] at hr; exact hr, by unfold mkV; rw [h1]; rfl⟩
    split at hl
    · rename_i hu
      rw [hu] at hs
      obtain ⟨b, rfl⟩ := okWide_bool hu hv
      obtain ⟨c, rfl⟩ := hs
      exact one rfl rfl
    · rename_i k hu
      rw [hu] at hs
      obtain ⟨b, rfl⟩ := okWide_int hu hv
      obtain ⟨c, rfl, _⟩ := hs
      exact one rfl rfl
    · rename_i hu
      rw [hu] at hs
      obtain ⟨b, rfl⟩ := okWide_string hu hv
      obtain ⟨c, rfl, _⟩ := hs
      exact one rfl rfl
    · rename_i fs hu
      rw [hu] at hs
      obtain ⟨cs, rfl, _⟩ := okWide_struct hu hv
      obtain ⟨ds, rfl, _⟩ := hs
      exact ⟨cs.toList, by simpa [Value.cells] using hr, by unfold mkV; simp [D.isAgg]⟩
    · rename_i e hu
      rw [hu] at hs
      obtain ⟨a, len, cap, rfl⟩ := okWide_slice hu hv
      obtain ⟨ds, rfl, _⟩ := hs
      exact one rfl rfl
    · simp at hl
end Go.Proofs.YtlniifhdimaliaaGreat.Ae

/-! Lists of places, handed to a law. No condition. -/
namespace Go.Proofs.YtlniifhdimaliaaGreat.Ae
open Go Go.RowKit Go.Proofs.YtlniifhdimaliaaGreat.Dig

theorem shp_i64 {P : Program} {n : Nat} {t : TypeId} {d : D} (hu : P.underlying t = some (.int .i64)) (h : shp P (n + 1) t d) : ∃ x, d = .lit (.int .i64 x) ∧ I64 x := by
  simp only [shp, hu] at h
  obtain ⟨x, rfl, hw⟩ := h
  exact ⟨x, rfl, bounds_i64 hw⟩
theorem shp_two {P : Program} {n : Nat} {t : TypeId} {f g : Field} {d : D} (hu : P.underlying t = some (.struct #[f, g])) (h : shp P (n + 1) t d) : ∃ x y, d = .agg [x, y] ∧ shp P n f.type x ∧ shp P n g.type y := by
  simp only [shp, hu] at h
  obtain ⟨ds, rfl, hl, hf⟩ := h
  match ds, hl with
  | [x, y], _ => exact ⟨x, y, rfl, hf 0 f x rfl rfl, hf 1 g y rfl rfl⟩
theorem shp_sl {P : Program} {n : Nat} {t e : TypeId} {d : D} (hu : P.underlying t = some (.slice e)) (h : shp P (n + 1) t d) : ∃ xs, d = .sl (P.cellsOf e) xs ∧ xs.length ≤ maxLen ∧ ∀ x ∈ xs, shp P n e x := by
  simp only [shp, hu] at h
  exact h
theorem list_map {α : Type} {E : α → D} {p : α → Prop} : ∀ {xs : List D}, (∀ x ∈ xs, ∃ v, x = E v ∧ p v) → ∃ l : List α, xs = l.map E ∧ ∀ v ∈ l, p v
  | [], _ => ⟨[], rfl, fun v h => by simp at h⟩
  | x :: xs, h => by
    obtain ⟨v, e, hv⟩ := h x List.mem_cons_self
    obtain ⟨l, el, hl⟩ := list_map (xs := xs) (fun y hy => h y (List.mem_cons_of_mem _ hy))
    exact ⟨v :: l, by rw [e, el]; rfl, fun u hu => by
      rcases List.mem_cons.1 hu with rfl | hu
      · exact hv
      · exact hl u hu⟩
set_option maxRecDepth 100000 in
theorem shp_lQ {n : Nat} {d : D} (h : shp Tryz.prog (n + 2) 23 d) : ∃ p : Int × Int, d = eQ p.1 p.2 ∧ I64 p.1 ∧ I64 p.2 := by
  obtain ⟨x, y, rfl, hx, hy⟩ := shp_two (P := Tryz.prog) (n := n + 1) (t := 23) (d := d) Tryz.underlying23 h
  obtain ⟨a, rfl, ha⟩ := shp_i64 Tryz.underlying2 hx
  obtain ⟨b, rfl, hb⟩ := shp_i64 Tryz.underlying2 hy
  exact ⟨(a, b), rfl, ha, hb⟩
set_option maxRecDepth 100000 in
theorem shp_lV {n : Nat} {d : D} (h : shp Tryz.prog (n + 3) 25 d) : ∃ v, d = EV.e v ∧ V64 v := by
  obtain ⟨x, y, rfl, hx, hy⟩ := shp_two (P := Tryz.prog) (n := n + 2) (t := 25) (d := d) Tryz.underlying25 h
  obtain ⟨a, rfl, ha⟩ := shp_lQ hx
  obtain ⟨b, rfl, hb⟩ := shp_lQ hy
  exact ⟨(a, b), rfl, ha, hb⟩
/-- A list of places. -/
def EVL : Enc (List ((Int × Int) × Int × Int)) := EV.list 4
@[simp] theorem EVL_e (l : List ((Int × Int) × Int × Int)) : EVL.e l = .sl 4 (l.map EV.e) := rfl
set_option maxRecDepth 100000 in
theorem shp_lVS {n : Nat} {d : D} (h : shp Tryz.prog (n + 4) 46 d) : ∃ l, d = EVL.e l ∧ l.length ≤ maxLen ∧ ∀ v ∈ l, V64 v := by
  obtain ⟨xs, rfl, hl, hx⟩ := shp_sl (P := Tryz.prog) (n := n + 3) (t := 46) (d := d) Tryz.underlying46 h
  obtain ⟨l, rfl, hp⟩ := list_map (E := EV.e) (p := V64) (fun x hx' => shp_lV (hx x hx'))
  exact ⟨l, by simp, by simpa using hl, hp⟩
theorem ix_mem {A B : List D} {x : D} {k : Nat} (h : A.length = k) : ix (A ++ x :: B) k = some x := by
  unfold ix; rw [← h, List.getElem?_append_right (Nat.le_refl _), Nat.sub_self]; rfl
theorem lset_mem {A B : List D} {x y : D} {k : Nat} (h : A.length = k) : lset (A ++ x :: B) k y = A ++ y :: B := by
  unfold lset; rw [← h, List.set_append_right _ _ (Nat.le_refl _), Nat.sub_self]; rfl
end Go.Proofs.YtlniifhdimaliaaGreat.Ae

/-! Lists of places: allV, toVS, szVS, eqVS. No condition. -/
namespace Go.Proofs.YtlniifhdimaliaaGreat.Ae
open Go Go.RowKit Go.Proofs.YtlniifhdimaliaaGreat.Dig

/-! i.allV -/
noncomputable def allVC := ct1 EVL (fun l => l.length < 4611686018427387904 ∧ ∀ v ∈ l, V64 v) (fun l => [.lit (.bool (l.all fun v => decide (vOk v)))])
@[simp] theorem allVC_at (l : List ((Int × Int) × Int × Int)) : allVC [.sl 4 (l.map EV.e)] = ((l.length < 4611686018427387904 ∧ ∀ v ∈ l, V64 v), [.lit (.bool (l.all fun v => decide (vOk v)))]) := ct1_at (A := EVL) l
noncomputable def allVTb : List (FuncId × Ct) := [(48, .data iVOkC)]
theorem allVTb_ok {N : NR} : TbOK N Tryz.prog (tbl allVTb) := tbl_cons (c := .data iVOkC) iVOk_spec iVOk_ok tbl_nil

@[simp] theorem allVTb1 : tbl allVTb 48 = some (.data iVOkC) := rfl
def allVS (l : List ((Int × Int) × Int × Int)) (k : Nat) : St := ⟨[.any, .any, .any, .any, .any, .dat (.sl 4 (l.map EV.e)), .dat (.lit (.int .i64 l.length)), .dat (.lit (.int .i64 k)), .any, .any, .any, .any, .any, .any, .any], [none, none, none, none, none, none, none, none, none, none, none, none, none, none, none]⟩
theorem allV_spec {N : NR} : SpecD N Tryz.prog 72 allVC := by
  refine rd1 (mf := fun f => false) allVTb_ok (fn := Tryz.f72) (by kernel_rfl) rfl (by kernel_rfl) (by kernel_rfl) ?_
  rintro l ⟨hl, hb⟩
  generalize hr : (l.all fun v => decide (vOk v)) = r
  show awp _ _ _ _ (start _ ([.sl 4 (l.map EV.e)].map .dat) []) (endK _ _ _ ([D.lit (.bool r)].map .dat) [])
  simp only [Tryz.f72]
  simp
  refine loop_go (fun n st => ∃ k, n = l.length - k ∧ k ≤ l.length ∧ (∀ y ∈ l.take k, decide (vOk y) = true) ∧ st = allVS l k) (s0 := allVS l 0) (n := l.length) (snd_of (by simp [LeT, allVS]) (by simp [allVS])) ⟨0, rfl, Nat.zero_le _, by simp, rfl⟩ ?_
  rintro n st ⟨k, hn, hk, hall, rfl⟩ KN hN
  by_cases h : k < l.length
  · have hx := List.getElem?_eq_getElem h
    obtain ⟨⟨⟨a, b⟩, c, d⟩, hq⟩ : ∃ q, q = l[k] := ⟨_, rfl⟩
    rw [← hq] at hx
    have e1 : ix (l.map EV.e) k = some (.agg [eQ a b, eQ c d]) := by
      unfold ix
      rw [List.getElem?_map, hx]; rfl
    obtain ⟨⟨i1, i2⟩, i3, i4⟩ := hb ((a, b), c, d) (List.mem_of_getElem? hx)
    have i1 : I64 a := i1
    have i2 : I64 b := i2
    have i3 : I64 c := i3
    have i4 : I64 d := i4
    obtain ⟨a1, a2⟩ := all_drop (fun v => decide (vOk v)) l k ((a, b), c, d) hx hall
    have w1 : IntKind.i64.wrap ((k : Int) + 1) = (k : Int) + 1 := i64_id _ (by omega) (by omega)
    by_cases hok : qOk a b ∧ qOk c d
    · have a2 := a2 (decide_eq_true hok)
      simp [-D.isLit, allVS, h, e1, i1, i2, i3, i4, hok.1, hok.2, w1]
      exact hN _ (nx (m := l.length - (k + 1)) (s'' := allVS l (k + 1)) (snd_obs (n := 15) [] rfl (by simp) (by simp [allVS])) ⟨k + 1, rfl, h, a2, rfl⟩ (by omega))
    · have a1 := a1 (decide_eq_false hok)
      rw [hr] at a1
      subst a1
      have hok' : (decide (qOk a b) && decide (qOk c d)) = false := by rw [← Bool.decide_and]; exact decide_eq_false hok
      simp [-D.isLit, allVS, h, e1, i1, i2, i3, i4, hok', w1]
  · have hkl : k = l.length := by omega
    subst hkl
    rw [List.take_length] at hall
    have hrt : r = true := by rw [← hr, List.all_eq_true]; exact hall
    subst hrt
    simp [allVS]
theorem allV_ok : callable Tryz.prog 72 = true := by kernel_rfl

/-! l.toVS -/
noncomputable def toVSC := ct1 EVL (fun l => l.length < 16777216 / 4) (fun l => [.sl 4 (l.map EV.e)])
@[simp] theorem toVSC_at (l : List ((Int × Int) × Int × Int)) : toVSC [.sl 4 (l.map EV.e)] = (l.length < 16777216 / 4, [.sl 4 (l.map EV.e)]) := ct1_at (A := EVL) l
noncomputable def toVSTb : List (FuncId × Ct) := [(13, .data toVC)]
theorem toVSTb_ok {N : NR} : TbOK N Tryz.prog (tbl toVSTb) := tbl_cons (c := .data toVC) toV_spec toV_ok tbl_nil

@[simp] theorem toVSTb1 : tbl toVSTb 13 = some (.data toVC) := rfl
def zV : D := .agg [.agg [.lit (.int .i64 0), .lit (.int .i64 0)], .agg [.lit (.int .i64 0), .lit (.int .i64 0)]]
@[simp] theorem zV_size : zV.size = 4 := rfl
def toVSS (l p q : List ((Int × Int) × Int × Int)) : St := ⟨[.dat (.sl 4 (l.map EV.e)), .any, .any, .row 7, .dat (.lit (.int .i64 p.length)), .any, .any, .any, .any, .any, .any, .any, .any, .any, .any, .any, .any, .any, .any, .any, .any, .any, .any], [none, none, none, none, none, none, none, some (.row 4 31 (p.map EV.e ++ List.replicate q.length zV)), none, none, none, none, none, none, none, none, none, none, none, none, none, none, none]⟩
theorem toVS_spec {N : NR} : SpecD N Tryz.prog 28 toVSC := by
  refine rd1 (mf := fun f => false) toVSTb_ok (fn := Tryz.f28) (by kernel_rfl) rfl (by kernel_rfl) (by kernel_rfl) ?_
  rintro l hl
  have hl : l.length < 4194304 := hl
  show awp _ _ _ _ (start _ ([.sl 4 (l.map EV.e)].map .dat) []) (endK _ _ _ ([D.sl 4 (l.map EV.e)].map .dat) [])
  simp only [Tryz.f28]
  simp
  refine ⟨by omega, ?_⟩
  refine loop_go (fun n st => ∃ p q, l = p ++ q ∧ n = q.length ∧ st = toVSS l p q) (s0 := toVSS l [] l) (n := l.length) (snd_of (by simp [LeT, toVSS, zV]) (by simp [toVSS, zV])) ⟨[], l, rfl, rfl, rfl⟩ ?_
  rintro n st ⟨p, q, rfl, rfl, rfl⟩ KN hN
  cases q with
  | nil =>
    simp [toVSS]
  | cons v q =>
    obtain ⟨⟨a, b⟩, c, d⟩ := v
    have e1 : ix (p.map EV.e ++ .agg [eQ a b, eQ c d] :: q.map EV.e) p.length = some (.agg [eQ a b, eQ c d]) := ix_mem (by simp)
    have e2 : lset (p.map EV.e ++ List.replicate (q.length + 1) zV) p.length (.agg [eQ a b, eQ c d]) = p.map EV.e ++ .agg [eQ a b, eQ c d] :: List.replicate q.length zV := by
      rw [List.replicate_succ]; exact lset_mem (by simp)
    have e3 : ix (p.map EV.e ++ List.replicate (q.length + 1) zV) p.length = some zV := by
      rw [List.replicate_succ]; exact ix_mem (by simp)
    have w1 : IntKind.i64.wrap ((p.length : Int) + 1) = (p.length : Int) + 1 := i64_id _ (by omega) (by simp at hl; omega)
    have e4 : (p.length : Int) < p.length + (q.length + 1) := by omega
    simp [-D.isLit, toVSS, e1, e2, e3, e4, w1]
    refine hN _ (nx (m := q.length) (s'' := toVSS (p ++ ((a, b), c, d) :: q) (p ++ [((a, b), c, d)]) q) (snd_of (by simp [LeT, toVSS]) (by simp [toVSS])) ⟨p ++ [((a, b), c, d)], q, by simp, rfl, rfl⟩ (by simp))
theorem toVS_ok : callable Tryz.prog 28 = true := by kernel_rfl

/-! l.szVS -/
def ESz : Enc (List ((Int × Int) × Int × Int)) := EVL
noncomputable def szVSC := ct2 EVL EInt (fun l n => l.length ≤ 9223372036854775807 ∧ 0 ≤ n ∧ n < 4611686018427387904) (fun l n => [.lit (.int .i64 (if n < l.length then -1 else n - l.length))])
@[simp] theorem szVSC_at (l : List ((Int × Int) × Int × Int)) (n : Int) : szVSC [.sl 4 (l.map EV.e), .lit (.int .i64 n)] = ((l.length ≤ 9223372036854775807 ∧ 0 ≤ n ∧ n < 4611686018427387904), [.lit (.int .i64 (if n < l.length then -1 else n - l.length))]) := ct2_at (A := EVL) (B := EInt) l n
theorem szVS_spec {N : NR} : SpecD N Tryz.prog 26 szVSC := by
  refine rd2 (mf := fun f => false) (tb := tbl []) tbl_nil (fn := Tryz.f26) (by kernel_rfl) rfl (by kernel_rfl) (by kernel_rfl) ?_
  rintro l n ⟨hl, h0, hn⟩
  show awp _ _ _ _ (start _ ([.sl 4 (l.map EV.e), .lit (.int .i64 n)].map .dat) []) (endK _ _ _ ([D.lit (.int .i64 (if n < l.length then -1 else n - l.length))].map .dat) [])
  have w1 : IntKind.i64.wrap (n - l.length) = n - l.length := i64_id _ (by omega) (by omega)
  by_cases h : n < l.length
  · have h' : n - l.length < 0 := by omega
    simp [Tryz.f26, w1, h, h']
  · have h' : ¬ n - l.length < 0 := by omega
    simp [Tryz.f26, w1, h, h']
theorem szVS_ok : callable Tryz.prog 26 = true := by kernel_rfl

/-! l.eqVS -/
noncomputable def eqVSC := ct2 EVL EVL (fun l m => l.length < 4611686018427387904 ∧ l = m) (fun l m => [.lit (.bool true)])
@[simp] theorem eqVSC_at (l m : List ((Int × Int) × Int × Int)) : eqVSC [.sl 4 (l.map EV.e), .sl 4 (m.map EV.e)] = ((l.length < 4611686018427387904 ∧ l = m), [.lit (.bool true)]) := ct2_at (A := EVL) (B := EVL) l m
noncomputable def eqVSTb : List (FuncId × Ct) := [(18, .data eqVC)]
theorem eqVSTb_ok {N : NR} : TbOK N Tryz.prog (tbl eqVSTb) := tbl_cons (c := .data eqVC) eqV_spec eqV_ok tbl_nil

@[simp] theorem eqVSTb1 : tbl eqVSTb 18 = some (.data eqVC) := rfl
def eqVSS (l : List ((Int × Int) × Int × Int)) (k : Nat) : St := ⟨[.dat (.sl 4 (l.map EV.e)), .dat (.sl 4 (l.map EV.e)), .any, .any, .any, .dat (.lit (.int .i64 k)), .any, .any, .any, .any, .any, .any, .any, .any, .any, .any, .any, .any, .any, .any, .any, .any, .any, .any, .any, .any, .any], [none, none, none, none, none, none, none, none, none, none, none, none, none, none, none, none, none, none, none, none, none, none, none, none, none, none, none]⟩
theorem eqVS_spec {N : NR} : SpecD N Tryz.prog 30 eqVSC := by
  refine rd2 (mf := fun f => false) eqVSTb_ok (fn := Tryz.f30) (by kernel_rfl) rfl (by kernel_rfl) (by kernel_rfl) ?_
  rintro l m ⟨hl, hm⟩
  have hm : l = m := hm
  subst hm
  show awp _ _ _ _ (start _ ([.sl 4 (l.map EV.e), .sl 4 (l.map EV.e)].map .dat) []) (endK _ _ _ ([D.lit (.bool true)].map .dat) [])
  simp only [Tryz.f30]
  simp
  refine loop_go (fun n st => ∃ k, n = l.length - k ∧ k ≤ l.length ∧ st = eqVSS l k) (s0 := eqVSS l 0) (n := l.length) (snd_of (by simp [LeT, eqVSS]) (by simp [eqVSS])) ⟨0, rfl, Nat.zero_le _, rfl⟩ ?_
  rintro n st ⟨k, hn, hk, rfl⟩ KN hN
  by_cases h : k < l.length
  · have hx := List.getElem?_eq_getElem h
    obtain ⟨⟨⟨a, b⟩, c, d⟩, hq⟩ : ∃ q, q = l[k] := ⟨_, rfl⟩
    rw [← hq] at hx
    have e1 : ix (l.map EV.e) k = some (.agg [eQ a b, eQ c d]) := by
      unfold ix
      rw [List.getElem?_map, hx]; rfl
    have w1 : IntKind.i64.wrap ((k : Int) + 1) = (k : Int) + 1 := i64_id _ (by omega) (by omega)
    simp [-D.isLit, eqVSS, h, e1, w1]
    exact hN _ (nx (m := l.length - (k + 1)) (s'' := eqVSS l (k + 1)) (snd_of (by simp [LeT, eqVSS]) (by simp [eqVSS])) ⟨k + 1, rfl, h, rfl⟩ (by omega))
  · have hkl : k = l.length := by omega
    subst hkl
    simp [eqVSS]
theorem eqVS_ok : callable Tryz.prog 30 = true := by kernel_rfl
end Go.Proofs.YtlniifhdimaliaaGreat.Ae

/-! Lists of pieces: szSegS, toSegS, eqSegS, segsOk, l5Ok. No condition. -/
namespace Go.Proofs.YtlniifhdimaliaaGreat.Ae
open Go Go.RowKit Go.Proofs.YtlniifhdimaliaaGreat.Dig

abbrev SegT := (((Int × Int) × Int × Int) × (Int × Int) × Int × Int)
def S64 (v : SegT) : Prop := V64 v.1 ∧ V64 v.2
def sOk (v : SegT) : Prop := segOk v.1.1.1 v.1.1.2 v.1.2.1 v.1.2.2 v.2.1.1 v.2.1.2 v.2.2.1 v.2.2.2
instance (v : SegT) : Decidable (sOk v) := by unfold sOk; infer_instance
theorem S64_at {a b c d e f g h : Int} (x : S64 (((a, b), c, d), (e, f), g, h)) : ((I64 a ∧ I64 b) ∧ I64 c ∧ I64 d) ∧ (I64 e ∧ I64 f) ∧ I64 g ∧ I64 h := x
def ESL : Enc (List SegT) := ESeg.list 8
@[simp] theorem ESL_e (l : List SegT) : ESL.e l = .sl 8 (l.map ESeg.e) := rfl
theorem seg_at {l : List SegT} {E : SegT → D} {k : Nat} (h : k < l.length) : ∃ a b c d e f g i, l[k]? = some (((a, b), c, d), (e, f), g, i) ∧ ix (l.map E) k = some (E (((a, b), c, d), (e, f), g, i)) ∧ (((a, b), c, d), (e, f), g, i) ∈ l := by
  have hx := List.getElem?_eq_getElem h
  obtain ⟨⟨⟨⟨a, b⟩, c, d⟩, ⟨e, f⟩, g, i⟩, hq⟩ : ∃ q, q = l[k] := ⟨_, rfl⟩
  rw [← hq] at hx
  exact ⟨a, b, c, d, e, f, g, i, hx, by unfold ix; rw [List.getElem?_map, hx]; rfl, List.mem_of_getElem? hx⟩
set_option maxRecDepth 100000 in
theorem shp_lSeg {n : Nat} {d : D} (h : shp Tryz.prog (n + 4) 27 d) : ∃ v, d = ESeg.e v ∧ S64 v := by
  obtain ⟨x, y, rfl, hx, hy⟩ := shp_two (P := Tryz.prog) (n := n + 3) (t := 27) (d := d) Tryz.underlying27 h
  obtain ⟨a, rfl, ha⟩ := shp_lV hx
  obtain ⟨b, rfl, hb⟩ := shp_lV hy
  exact ⟨(a, b), rfl, ha, hb⟩
set_option maxRecDepth 100000 in
theorem shp_lSegS {n : Nat} {d : D} (h : shp Tryz.prog (n + 5) 65 d) : ∃ l, d = ESL.e l ∧ l.length ≤ maxLen ∧ ∀ v ∈ l, S64 v := by
  obtain ⟨xs, rfl, hl, hx⟩ := shp_sl (P := Tryz.prog) (n := n + 4) (t := 65) (d := d) Tryz.underlying65 h
  obtain ⟨l, rfl, hp⟩ := list_map (E := ESeg.e) (p := S64) (fun x hx' => shp_lSeg (hx x hx'))
  exact ⟨l, by simp, by simpa using hl, hp⟩

/-! l.toSegS -/
noncomputable def toSegSC := ct1 ESL (fun l => l.length < 16777216 / 8) (fun l => [.sl 8 (l.map ESeg.e)])
@[simp] theorem toSegSC_at (l : List SegT) : toSegSC [.sl 8 (l.map ESeg.e)] = (l.length < 16777216 / 8, [.sl 8 (l.map ESeg.e)]) := ct1_at (A := ESL) l
noncomputable def toSegSTb : List (FuncId × Ct) := [(14, .data toSegC)]
theorem toSegSTb_ok {N : NR} : TbOK N Tryz.prog (tbl toSegSTb) := tbl_cons (c := .data toSegC) toSeg_spec toSeg_ok tbl_nil

@[simp] theorem toSegSTb1 : tbl toSegSTb 14 = some (.data toSegC) := rfl
def zSg : D := .agg [zV, zV]
@[simp] theorem zSg_size : zSg.size = 8 := rfl
def toSegSS (l p q : List SegT) : St := ⟨[.dat (.sl 8 (l.map ESeg.e)), .any, .any, .row 7, .dat (.lit (.int .i64 p.length)), .any, .any, .any, .any, .any, .any, .any, .any, .any, .any, .any, .any, .any, .any, .any, .any, .any, .any], [none, none, none, none, none, none, none, some (.row 8 34 (p.map ESeg.e ++ List.replicate q.length zSg)), none, none, none, none, none, none, none, none, none, none, none, none, none, none, none]⟩
theorem toSegS_spec {N : NR} : SpecD N Tryz.prog 38 toSegSC := by
  refine rd1 (mf := fun f => false) toSegSTb_ok (fn := Tryz.f38) (by kernel_rfl) rfl (by kernel_rfl) (by kernel_rfl) ?_
  rintro l hl
  have hl : l.length < 2097152 := hl
  show awp _ _ _ _ (start _ ([.sl 8 (l.map ESeg.e)].map .dat) []) (endK _ _ _ ([D.sl 8 (l.map ESeg.e)].map .dat) [])
  simp only [Tryz.f38]
  simp
  refine ⟨by omega, ?_⟩
  refine loop_go (fun n st => ∃ p q, l = p ++ q ∧ n = q.length ∧ st = toSegSS l p q) (s0 := toSegSS l [] l) (n := l.length) (snd_of (by simp [LeT, toSegSS]) (by simp [toSegSS, zSg, zV])) ⟨[], l, rfl, rfl, rfl⟩ ?_
  rintro n st ⟨p, q, rfl, rfl, rfl⟩ KN hN
  cases q with
  | nil => simp [toSegSS]
  | cons v q =>
    obtain ⟨⟨⟨a, b⟩, c, d⟩, ⟨e, f⟩, g, h⟩ := v
    have e1 : ix (p.map ESeg.e ++ .agg [.agg [eQ a b, eQ c d], .agg [eQ e f, eQ g h]] :: q.map ESeg.e) p.length = some (.agg [.agg [eQ a b, eQ c d], .agg [eQ e f, eQ g h]]) := ix_mem (by simp)
    have e2 : lset (p.map ESeg.e ++ List.replicate (q.length + 1) zSg) p.length (.agg [.agg [eQ a b, eQ c d], .agg [eQ e f, eQ g h]]) = p.map ESeg.e ++ .agg [.agg [eQ a b, eQ c d], .agg [eQ e f, eQ g h]] :: List.replicate q.length zSg := by
      rw [List.replicate_succ]; exact lset_mem (by simp)
    have e3 : ix (p.map ESeg.e ++ List.replicate (q.length + 1) zSg) p.length = some zSg := by
      rw [List.replicate_succ]; exact ix_mem (by simp)
    have w1 : IntKind.i64.wrap ((p.length : Int) + 1) = (p.length : Int) + 1 := i64_id _ (by omega) (by simp at hl; omega)
    have e4 : (p.length : Int) < p.length + (q.length + 1) := by omega
    simp [-D.isLit, toSegSS, e1, e2, e3, e4, w1]
    refine hN _ (nx (m := q.length) (s'' := toSegSS (p ++ (((a, b), c, d), (e, f), g, h) :: q) (p ++ [(((a, b), c, d), (e, f), g, h)]) q) (snd_of (by simp [LeT, toSegSS]) (by simp [toSegSS])) ⟨p ++ [(((a, b), c, d), (e, f), g, h)], q, by simp, rfl, rfl⟩ (by simp))
theorem toSegS_ok : callable Tryz.prog 38 = true := by kernel_rfl

/-! l.szSegS -/
noncomputable def szSegSC := ct2 ESL EInt (fun l n => l.length ≤ 9223372036854775807 ∧ 0 ≤ n ∧ n < 4611686018427387904) (fun l n => [.lit (.int .i64 (if n < l.length then -1 else n - l.length))])
@[simp] theorem szSegSC_at (l : List SegT) (n : Int) : szSegSC [.sl 8 (l.map ESeg.e), .lit (.int .i64 n)] = ((l.length ≤ 9223372036854775807 ∧ 0 ≤ n ∧ n < 4611686018427387904), [.lit (.int .i64 (if n < l.length then -1 else n - l.length))]) := ct2_at (A := ESL) (B := EInt) l n
theorem szSegS_spec {N : NR} : SpecD N Tryz.prog 36 szSegSC := by
  refine rd2 (mf := fun f => false) (tb := tbl []) tbl_nil (fn := Tryz.f36) (by kernel_rfl) rfl (by kernel_rfl) (by kernel_rfl) ?_
  rintro l n ⟨hl, h0, hn⟩
  show awp _ _ _ _ (start _ ([.sl 8 (l.map ESeg.e), .lit (.int .i64 n)].map .dat) []) (endK _ _ _ ([D.lit (.int .i64 (if n < l.length then -1 else n - l.length))].map .dat) [])
  have w1 : IntKind.i64.wrap (n - l.length) = n - l.length := i64_id _ (by omega) (by omega)
  by_cases h : n < l.length
  · have h' : n - l.length < 0 := by omega
    simp [Tryz.f36, w1, h, h']
  · have h' : ¬ n - l.length < 0 := by omega
    simp [Tryz.f36, w1, h, h']
theorem szSegS_ok : callable Tryz.prog 36 = true := by kernel_rfl

/-! l.eqSeg -/
noncomputable def eqSegC := ct2 ESeg ESeg (fun p0 p1 => p0.1.1.1 = p1.1.1.1 ∧ p0.1.1.2 = p1.1.1.2 ∧ p0.1.2.1 = p1.1.2.1 ∧ p0.1.2.2 = p1.1.2.2 ∧ p0.2.1.1 = p1.2.1.1 ∧ p0.2.1.2 = p1.2.1.2 ∧ p0.2.2.1 = p1.2.2.1 ∧ p0.2.2.2 = p1.2.2.2) (fun p0 p1 => [.lit (.bool true)])
@[simp] theorem eqSegC_at (a b c d e f g h : Int) (i j k l m n o p : Int) : eqSegC [.agg [.agg [eQ a b, eQ c d], .agg [eQ e f, eQ g h]], .agg [.agg [eQ i j, eQ k l], .agg [eQ m n, eQ o p]]] = (a = i ∧ b = j ∧ c = k ∧ d = l ∧ e = m ∧ f = n ∧ g = o ∧ h = p, [.lit (.bool true)]) := ct2_at (((a, b), c, d), (e, f), g, h) (((i, j), k, l), (m, n), o, p)
noncomputable def eqSegTb : List (FuncId × Ct) := [(18, .data eqVC)]
theorem eqSegTb_ok {N : NR} : TbOK N Tryz.prog (tbl eqSegTb) := tbl_cons (c := .data eqVC) eqV_spec eqV_ok tbl_nil

@[simp] theorem eqSegTb1 : tbl eqSegTb 18 = some (.data eqVC) := rfl
theorem eqSeg_spec {N : NR} : SpecD N Tryz.prog 91 eqSegC := by
  refine rd2 (mf := fun f => false) eqSegTb_ok (fn := Tryz.f91) (by kernel_rfl) rfl (by kernel_rfl) (by kernel_rfl) ?_
  rintro ⟨⟨⟨a, b⟩, c, d⟩, ⟨e, f⟩, g, h⟩ ⟨⟨⟨i, j⟩, k, l⟩, ⟨m, n⟩, o, p⟩ hp
  have hp : a = i ∧ b = j ∧ c = k ∧ d = l ∧ e = m ∧ f = n ∧ g = o ∧ h = p := hp
  show awp _ _ _ _ (start _ ([.agg [.agg [eQ a b, eQ c d], .agg [eQ e f, eQ g h]], .agg [.agg [eQ i j, eQ k l], .agg [eQ m n, eQ o p]]].map .dat) []) (endK _ _ _ (([.lit (.bool true)]).map .dat) [])
  simp [-D.isLit, Tryz.f91, hp]
theorem eqSeg_ok : callable Tryz.prog 91 = true := by kernel_rfl

/-! l.eqSegS -/
noncomputable def eqSegSC := ct2 ESL ESL (fun l m => l.length < 4611686018427387904 ∧ l = m) (fun l m => [.lit (.bool true)])
@[simp] theorem eqSegSC_at (l m : List SegT) : eqSegSC [.sl 8 (l.map ESeg.e), .sl 8 (m.map ESeg.e)] = ((l.length < 4611686018427387904 ∧ l = m), [.lit (.bool true)]) := ct2_at (A := ESL) (B := ESL) l m
noncomputable def eqSegSTb : List (FuncId × Ct) := [(91, .data eqSegC)]
theorem eqSegSTb_ok {N : NR} : TbOK N Tryz.prog (tbl eqSegSTb) := tbl_cons (c := .data eqSegC) eqSeg_spec eqSeg_ok tbl_nil

@[simp] theorem eqSegSTb1 : tbl eqSegSTb 91 = some (.data eqSegC) := rfl
def eqSegSS (l : List SegT) (k : Nat) : St := ⟨[.dat (.sl 8 (l.map ESeg.e)), .dat (.sl 8 (l.map ESeg.e)), .any, .any, .any, .dat (.lit (.int .i64 k)), .any, .any, .any, .any, .any, .any, .any, .any, .any, .any, .any, .any, .any, .any, .any, .any, .any, .any, .any, .any, .any], [none, none, none, none, none, none, none, none, none, none, none, none, none, none, none, none, none, none, none, none, none, none, none, none, none, none, none]⟩
theorem eqSegS_spec {N : NR} : SpecD N Tryz.prog 40 eqSegSC := by
  refine rd2 (mf := fun f => false) eqSegSTb_ok (fn := Tryz.f40) (by kernel_rfl) rfl (by kernel_rfl) (by kernel_rfl) ?_
  rintro l m ⟨hl, hm⟩
  have hm : l = m := hm
  subst hm
  show awp _ _ _ _ (start _ ([.sl 8 (l.map ESeg.e), .sl 8 (l.map ESeg.e)].map .dat) []) (endK _ _ _ ([D.lit (.bool true)].map .dat) [])
  simp only [Tryz.f40]
  simp
  refine loop_go (fun n st => ∃ k, n = l.length - k ∧ k ≤ l.length ∧ st = eqSegSS l k) (s0 := eqSegSS l 0) (n := l.length) (snd_of (by simp [LeT, eqSegSS]) (by simp [eqSegSS])) ⟨0, rfl, Nat.zero_le _, rfl⟩ ?_
  rintro n st ⟨k, hn, hk, rfl⟩ KN hN
  by_cases h : k < l.length
  · obtain ⟨a, b, c, d, e, f, g, i, _, e1, _⟩ := seg_at (E := ESeg.e) h
    have e1 : ix (l.map ESeg.e) k = some (.agg [.agg [eQ a b, eQ c d], .agg [eQ e f, eQ g i]]) := e1
    have w1 : IntKind.i64.wrap ((k : Int) + 1) = (k : Int) + 1 := i64_id _ (by omega) (by omega)
    simp [-D.isLit, eqSegSS, h, e1, w1]
    exact hN _ (nx (m := l.length - (k + 1)) (s'' := eqSegSS l (k + 1)) (snd_of (by simp [LeT, eqSegSS]) (by simp [eqSegSS])) ⟨k + 1, rfl, h, rfl⟩ (by omega))
  · have hkl : k = l.length := by omega
    subst hkl
    simp [eqSegSS]
theorem eqSegS_ok : callable Tryz.prog 40 = true := by kernel_rfl
def sgsOk (l : List SegT) : Bool := decide (l.length ≤ 60) && l.all fun v => decide (sOk v)

/-! i.segsOk -/
noncomputable def segsOkC := ct1 ESL (fun l => l.length < 4611686018427387904 ∧ ∀ v ∈ l, S64 v) (fun l => [.lit (.bool (sgsOk l))])
@[simp] theorem segsOkC_at (l : List SegT) : segsOkC [.sl 8 (l.map ESeg.e)] = ((l.length < 4611686018427387904 ∧ ∀ v ∈ l, S64 v), [.lit (.bool (sgsOk l))]) := ct1_at (A := ESL) l
noncomputable def segsOkTb : List (FuncId × Ct) := [(49, .data iSegOkC)]
theorem segsOkTb_ok {N : NR} : TbOK N Tryz.prog (tbl segsOkTb) := tbl_cons (c := .data iSegOkC) iSegOk_spec iSegOk_ok tbl_nil

@[simp] theorem segsOkTb1 : tbl segsOkTb 49 = some (.data iSegOkC) := rfl
def segsOkS (l : List SegT) (k : Nat) : St := ⟨[.any, .any, .any, .any, .any, .any, .any, .any, .dat (.sl 8 (l.map ESeg.e)), .dat (.lit (.int .i64 l.length)), .dat (.lit (.int .i64 k)), .any, .any, .any, .any, .any, .any, .any], [none, none, none, none, none, none, none, none, none, none, none, none, none, none, none, none, none, none]⟩
theorem segsOk_spec {N : NR} : SpecD N Tryz.prog 89 segsOkC := by
  refine rd1 (mf := fun f => false) segsOkTb_ok (fn := Tryz.f89) (by kernel_rfl) rfl (by kernel_rfl) (by kernel_rfl) ?_
  rintro l ⟨hl, hb⟩
  generalize hr : sgsOk l = r
  show awp _ _ _ _ (start _ ([.sl 8 (l.map ESeg.e)].map .dat) []) (endK _ _ _ ([D.lit (.bool r)].map .dat) [])
  simp only [Tryz.f89]
  by_cases h60 : 60 < l.length
  · have e : r = false := by rw [← hr]; unfold sgsOk; rw [decide_eq_false (by omega)]; rfl
    subst e
    have h60' : (60 : Int) < l.length := by omega
    simp [-D.isLit, h60, h60']
  have h60' : ¬ (60 : Int) < l.length := by omega
  have h60'' : (l.length : Int) ≤ 60 := by omega
  have hr : (l.all fun v => decide (sOk v)) = r := by rw [← hr]; unfold sgsOk; rw [decide_eq_true (by omega), Bool.true_and]
  simp [-D.isLit, h60, h60', h60'']
  refine loop_go (fun n st => ∃ k, n = l.length - k ∧ k ≤ l.length ∧ (∀ y ∈ l.take k, decide (sOk y) = true) ∧ st = segsOkS l k) (s0 := segsOkS l 0) (n := l.length) (snd_of (by simp [LeT, segsOkS]) (by simp [segsOkS])) ⟨0, rfl, Nat.zero_le _, by simp, rfl⟩ ?_
  rintro n st ⟨k, hn, hk, hall, rfl⟩ KN hN
  by_cases h : k < l.length
  · obtain ⟨a, b, c, d, e, f, g, i, hx, e1, hm⟩ := seg_at (E := ESeg.e) h
    have e1 : ix (l.map ESeg.e) k = some (.agg [.agg [eQ a b, eQ c d], .agg [eQ e f, eQ g i]]) := e1
    have i1 := S64_at (hb _ hm)
    obtain ⟨a1, a2⟩ := all_drop (fun v => decide (sOk v)) l k _ hx hall
    have w1 : IntKind.i64.wrap ((k : Int) + 1) = (k : Int) + 1 := i64_id _ (by omega) (by omega)
    by_cases hok : segOk a b c d e f g i
    · have a2 := a2 (decide_eq_true hok)
      simp [-D.isLit, segsOkS, h, e1, i1, hok, w1]
      exact hN _ (nx (m := l.length - (k + 1)) (s'' := segsOkS l (k + 1)) (snd_obs (n := 18) [] rfl (by simp) (by simp [segsOkS])) ⟨k + 1, rfl, h, a2, rfl⟩ (by omega))
    · have a1 := a1 (decide_eq_false hok)
      rw [hr] at a1
      subst a1
      simp [-D.isLit, segsOkS, h, e1, i1, hok, w1]
  · have hkl : k = l.length := by omega
    subst hkl
    rw [List.take_length] at hall
    have hrt : r = true := by rw [← hr, List.all_eq_true]; exact hall
    subst hrt
    simp [segsOkS]
theorem segsOk_ok : callable Tryz.prog 89 = true := by kernel_rfl

/-! s.l5Ok -/
noncomputable def l5OkC := ct1 ESL (fun l => l.length < 4611686018427387904 ∧ ∀ v ∈ l, S64 v) (fun l => [.lit (.bool (sgsOk l))])
@[simp] theorem l5OkC_at (l : List SegT) : l5OkC [.sl 8 (l.map ESeg.e)] = ((l.length < 4611686018427387904 ∧ ∀ v ∈ l, S64 v), [.lit (.bool (sgsOk l))]) := ct1_at (A := ESL) l
noncomputable def l5OkTb : List (FuncId × Ct) := [(44, .data sSegOkC)]
theorem l5OkTb_ok : TbOK NF Tryz.prog (tbl l5OkTb) := tbl_cons (c := .data sSegOkC) sSegOk_spec sSegOk_ok tbl_nil

@[simp] theorem l5OkTb1 : tbl l5OkTb 44 = some (.data sSegOkC) := rfl
def l5OkS (l : List SegT) (k : Nat) : St := ⟨[.dat (.sl 8 (l.map ESeg.e)), .any, .any, .dat (.lit (.int .i64 k)), .any, .any, .any, .any, .any, .any, .any, .any, .any, .any, .any, .any, .any, .any, .any], [none, none, none, none, none, none, none, none, none, none, none, none, none, none, none, none, none, none, none]⟩
theorem l5Ok_spec : SpecD NF Tryz.prog 87 l5OkC := by
  refine rd1 (mf := fun f => false) l5OkTb_ok (fn := Tryz.f87) (by kernel_rfl) rfl (by kernel_rfl) (by kernel_rfl) ?_
  rintro l ⟨hl, hb⟩
  generalize hr : sgsOk l = r
  show awp _ _ _ _ (start _ ([.sl 8 (l.map ESeg.e)].map .dat) []) (endK _ _ _ ([D.lit (.bool r)].map .dat) [])
  simp only [Tryz.f87]
  by_cases h60 : 60 < l.length
  · have e : r = false := by rw [← hr]; unfold sgsOk; rw [decide_eq_false (by omega)]; rfl
    subst e
    have h60' : (60 : Int) < l.length := by omega
    simp [-D.isLit, h60, h60']
  have h60' : ¬ (60 : Int) < l.length := by omega
  have h60'' : (l.length : Int) ≤ 60 := by omega
  have hr : (l.all fun v => decide (sOk v)) = r := by rw [← hr]; unfold sgsOk; rw [decide_eq_true (by omega), Bool.true_and]
  simp [-D.isLit, h60, h60', h60'']
  refine loop_go (fun n st => ∃ k, n = l.length - k ∧ k ≤ l.length ∧ (∀ y ∈ l.take k, decide (sOk y) = true) ∧ st = l5OkS l k) (s0 := l5OkS l 0) (n := l.length) (snd_of (by simp [LeT, l5OkS]) (by simp [l5OkS])) ⟨0, rfl, Nat.zero_le _, by simp, rfl⟩ ?_
  rintro n st ⟨k, hn, hk, hall, rfl⟩ KN hN
  by_cases h : k < l.length
  · obtain ⟨a, b, c, d, e, f, g, i, hx, e1, hm⟩ := seg_at (E := ESeg.e) h
    have e1 : ix (l.map ESeg.e) k = some (.agg [.agg [eQ a b, eQ c d], .agg [eQ e f, eQ g i]]) := e1
    have i1 := S64_at (hb _ hm)
    obtain ⟨a1, a2⟩ := all_drop (fun v => decide (sOk v)) l k _ hx hall
    have w1 : IntKind.i64.wrap ((k : Int) + 1) = (k : Int) + 1 := i64_id _ (by omega) (by omega)
    by_cases hok : segOk a b c d e f g i
    · have a2 := a2 (decide_eq_true hok)
      simp [-D.isLit, l5OkS, h, e1, i1, hok, w1]
      exact hN _ (nx (m := l.length - (k + 1)) (s'' := l5OkS l (k + 1)) (snd_obs (n := 19) [] rfl (by simp) (by simp [l5OkS])) ⟨k + 1, rfl, h, a2, rfl⟩ (by omega))
    · have a1 := a1 (decide_eq_false hok)
      rw [hr] at a1
      subst a1
      simp [-D.isLit, l5OkS, h, e1, i1, hok, w1]
  · have hkl : k = l.length := by omega
    subst hkl
    rw [List.take_length] at hall
    have hrt : r = true := by rw [← hr, List.all_eq_true]; exact hall
    subst hrt
    simp [l5OkS]
theorem l5Ok_ok : callable Tryz.prog 87 = true := by kernel_rfl
end Go.Proofs.YtlniifhdimaliaaGreat.Ae

/-! Above: the program. No condition. -/
namespace Go.Proofs.YtlniifhdimaliaaGreat.Ae
open Go Go.RowKit Go.Proofs.YtlniifhdimaliaaGreat.Dig
theorem qcmp_swap (a b : Rat) : qcmp b a = - qcmp a b := by
  unfold qcmp
  rw [← Int.sign_neg]; congr 1; omega
theorem upQ_sz2 (a b c d : Rat) : qsz (upQ a b c d).1.1 + qsz (upQ a b c d).1.2 + qsz (upQ a b c d).2.1 + qsz (upQ a b c d).2.2 = qsz a + qsz b + qsz c + qsz d := by
  unfold upQ; split <;> simp only [] <;> omega
theorem upQ_le (a b c d : Rat) (h : qcmp (upQ a b c d).1.1 (upQ a b c d).2.1 = 0) : qcmp (upQ a b c d).1.2 (upQ a b c d).2.2 ≤ 0 := by
  unfold upQ at *
  split at h
  · rename_i h1
    rw [if_pos h1]
    have h : qcmp c a = 0 := h
    show qcmp d b ≤ 0
    have e1 := qcmp_swap a c
    have e2 := qcmp_swap b d
    unfold pcmp at h1
    rw [if_pos (by omega)] at h1
    omega
  · rename_i h1
    rw [if_neg h1]
    have h : qcmp a c = 0 := h
    show qcmp b d ≤ 0
    unfold pcmp at h1
    rw [if_pos h] at h1
    omega
/-- Where a way straight up from (p, q) meets the piece from (a, b) to (c, d), whose ends are in order: the height, and whether it is above. -/
def ovC (a b c d p q : Rat) : Option (Rat × Bool) :=
  if qcmp p a < 0 ∨ 0 < qcmp p c then none
  else if qcmp a c = 0 then some (if qcmp b q < 0 then q else b, decide (qcmp (if qcmp b q < 0 then q else b) d ≤ 0))
  else some (b + (d - b) * (p - a) / (c - a), decide (0 ≤ qcmp (b + (d - b) * (p - a) / (c - a)) q))
def ovS (a b c d p q : Rat) : Option (Rat × Bool) := ovC (upQ a b c d).1.1 (upQ a b c d).1.2 (upQ a b c d).2.1 (upQ a b c d).2.2 p q
def ovD (e : Rat → D) (z : D) (p : Rat) : Option (Rat × Bool) → List D
  | none => [.agg [z, z], .lit (.bool false)]
  | some (y, ok) => [.agg [e p, e y], .lit (.bool ok)]
def zRt : D := .agg [.lit (.int .i64 0), .lit (.int .i64 0), .lit (.pointer none)]
@[simp] theorem zRt_size : zRt.size = 3 := rfl
theorem sub_ne {a c : Rat} (h : ¬ qcmp a c = 0) : c - a ≠ 0 := fun e => h (by
  have : a = c := by grind
  subst this
  unfold qcmp; rw [Int.sub_self]; rfl)
theorem ovY_sz {a b c d p : Rat} (h : ¬ qcmp a c = 0) : qsz (b + (d - b) * (p - a) / (c - a)) ≤ 3 * (qsz a + qsz b + qsz c + qsz d + qsz p) + 20 := by
  have h1 := sub_ne h
  have h2 := qsz_div (a := (d - b) * (p - a)) h1
  grind [qsz_add, qsz_sub, qsz_mul]
theorem ovS_sz {a b c d p q y : Rat} {ok : Bool} (h : ovS a b c d p q = some (y, ok)) : qsz y ≤ 3 * (qsz a + qsz b + qsz c + qsz d + qsz p + qsz q) + 20 := by
  have hu := upQ_sz2 a b c d
  unfold ovS ovC at h
  generalize (upQ a b c d).1.1 = u1 at *
  generalize (upQ a b c d).1.2 = u2 at *
  generalize (upQ a b c d).2.1 = u3 at *
  generalize (upQ a b c d).2.2 = u4 at *
  split at h
  · cases h
  · split at h
    · simp only [Option.some.injEq, Prod.mk.injEq] at h
      rw [← h.1]; split <;> omega
    · rename_i h1
      simp only [Option.some.injEq, Prod.mk.injEq] at h
      have := ovY_sz (b := u2) (d := u4) (p := p) h1
      rw [← h.1]; omega

/-! (i.sg).up -/
noncomputable def sgup2C := ct1 ESg (fun p0 => qsz p0.1.1 + qsz p0.1.2 + qsz p0.2.1 + qsz p0.2.2 < LM) (fun p0 => [.agg [.agg [eRat (upQ p0.1.1 p0.1.2 p0.2.1 p0.2.2).1.1, eRat (upQ p0.1.1 p0.1.2 p0.2.1 p0.2.2).1.2], .agg [eRat (upQ p0.1.1 p0.1.2 p0.2.1 p0.2.2).2.1, eRat (upQ p0.1.1 p0.1.2 p0.2.1 p0.2.2).2.2]]])
@[simp] theorem sgup2C_at (a b c d : Rat) : sgup2C [.agg [.agg [eRat a, eRat b], .agg [eRat c, eRat d]]] = (qsz a + qsz b + qsz c + qsz d < LM, [.agg [.agg [eRat (upQ a b c d).1.1, eRat (upQ a b c d).1.2], .agg [eRat (upQ a b c d).2.1, eRat (upQ a b c d).2.2]]]) := ct1_at ((a, b), c, d)
noncomputable def sgup2Tb : List (FuncId × Ct) := [(119, .data ptcmpC)]
theorem sgup2Tb_ok {N : NR} : TbOK N Tryz.prog (tbl sgup2Tb) := tbl_cons (c := .data ptcmpC) ptcmp_spec ptcmp_ok tbl_nil

@[simp] theorem sgup2Tb1 : tbl sgup2Tb 119 = some (.data ptcmpC) := rfl
theorem sgup2_spec {N : NR} : SpecD N Tryz.prog 118 sgup2C := by
  refine rd1 (mf := fun f => false) sgup2Tb_ok (fn := Tryz.f118) (by kernel_rfl) rfl (by kernel_rfl) (by kernel_rfl) ?_
  rintro ⟨⟨a, b⟩, c, d⟩ hp
  have hp : qsz a + qsz b + qsz c + qsz d < LM := hp
  show awp _ _ _ _ (start _ ([.agg [.agg [eRat a, eRat b], .agg [eRat c, eRat d]]].map .dat) []) (endK _ _ _ (([.agg [.agg [eRat (upQ a b c d).1.1, eRat (upQ a b c d).1.2], .agg [eRat (upQ a b c d).2.1, eRat (upQ a b c d).2.2]]]).map .dat) [])
  by_cases h : 0 < pcmp a b c d <;> simp [-D.isLit, Tryz.f118, upQ, hp, h]
theorem sgup2_ok : callable Tryz.prog 118 = true := by kernel_rfl

/-! (i.rat).eq -/
noncomputable def req2C := ct2 ERat ERat (fun p0 p1 => qsz p0 + qsz p1 < MX) (fun p0 p1 => [.lit (.bool (decide (qcmp p0 p1 = 0)))])
@[simp] theorem req2C_at (a : Rat) (b : Rat) : req2C [eRat a, eRat b] = (qsz a + qsz b < MX, [.lit (.bool (decide (qcmp a b = 0)))]) := ct2_at a b
noncomputable def req2Tb : List (FuncId × Ct) := [(73, .data rcC)]
theorem req2Tb_ok {N : NR} : TbOK N Tryz.prog (tbl req2Tb) := tbl_cons (c := .data rcC) rcmp_spec rcmp_ok tbl_nil

@[simp] theorem req2Tb1 : tbl req2Tb 73 = some (.data rcC) := rfl
theorem req2_spec {N : NR} : SpecD N Tryz.prog 141 req2C := by
  refine rd2 (mf := fun f => false) req2Tb_ok (fn := Tryz.f141) (by kernel_rfl) rfl (by kernel_rfl) (by kernel_rfl) ?_
  rintro a b hp
  have hp : qsz a + qsz b < MX := hp
  show awp _ _ _ _ (start _ ([eRat a, eRat b].map .dat) []) (endK _ _ _ (([.lit (.bool (decide (qcmp a b = 0)))]).map .dat) [])
  simp [-D.isLit, Tryz.f141, hp]
theorem req2_ok : callable Tryz.prog 141 = true := by kernel_rfl

/-! (i.sg).over -/
noncomputable def sgoverC := ct2 ESg EP (fun p0 p1 => qsz p0.1.1 + qsz p0.1.2 + qsz p0.2.1 + qsz p0.2.2 + qsz p1.1 + qsz p1.2 < 10000000) (fun p0 p1 => ovD eRat zRt p1.1 (ovS p0.1.1 p0.1.2 p0.2.1 p0.2.2 p1.1 p1.2))
@[simp] theorem sgoverC_at (a b c d : Rat) (p q : Rat) : sgoverC [.agg [.agg [eRat a, eRat b], .agg [eRat c, eRat d]], .agg [eRat p, eRat q]] = (qsz a + qsz b + qsz c + qsz d + qsz p + qsz q < 10000000, ovD eRat zRt p (ovS a b c d p q)) := ct2_at ((a, b), c, d) (p, q)
noncomputable def sgoverTb : List (FuncId × Ct) := [(118, .data sgup2C), (73, .data rcC), (141, .data req2C), (133, .data rsubC), (106, .data rmC), (108, .data rdvC), (84, .data raddC)]
theorem sgoverTb_ok {N : NR} : TbOK N Tryz.prog (tbl sgoverTb) := tbl_cons (c := .data sgup2C) sgup2_spec sgup2_ok (tbl_cons (c := .data rcC) rcmp_spec rcmp_ok (tbl_cons (c := .data req2C) req2_spec req2_ok (tbl_cons (c := .data rsubC) rsub_spec rsub_ok (tbl_cons (c := .data rmC) rmul_spec rmul_ok (tbl_cons (c := .data rdvC) rdiv_spec rdiv_ok (tbl_cons (c := .data raddC) radd_spec radd_ok tbl_nil))))))

@[simp] theorem sgoverTb1 : tbl sgoverTb 118 = some (.data sgup2C) := rfl
@[simp] theorem sgoverTb2 : tbl sgoverTb 73 = some (.data rcC) := rfl
@[simp] theorem sgoverTb3 : tbl sgoverTb 141 = some (.data req2C) := rfl
@[simp] theorem sgoverTb4 : tbl sgoverTb 133 = some (.data rsubC) := rfl
@[simp] theorem sgoverTb5 : tbl sgoverTb 106 = some (.data rmC) := rfl
@[simp] theorem sgoverTb6 : tbl sgoverTb 108 = some (.data rdvC) := rfl
@[simp] theorem sgoverTb7 : tbl sgoverTb 84 = some (.data raddC) := rfl
set_option maxRecDepth 100000 in
set_option maxHeartbeats 4000000 in
theorem sgover_spec {N : NR} : SpecD N Tryz.prog 90 sgoverC := by
  refine rd2 (mf := fun f => false) sgoverTb_ok (fn := Tryz.f90) (by kernel_rfl) rfl (by kernel_rfl) (by kernel_rfl) ?_
  rintro ⟨⟨a, b⟩, c, d⟩ ⟨p, q⟩ hp
  have hp : qsz a + qsz b + qsz c + qsz d + qsz p + qsz q < 10000000 := hp
  show awp _ _ _ _ (start _ ([.agg [.agg [eRat a, eRat b], .agg [eRat c, eRat d]], .agg [eRat p, eRat q]].map .dat) []) (endK _ _ _ ((ovD eRat zRt p (ovS a b c d p q)).map .dat) [])
  have hu := upQ_sz2 a b c d
  have hle := upQ_le a b c d
  have h0 : qsz a + qsz b + qsz c + qsz d < LM := by rw [LM_val]; omega
  unfold ovS
  obtain ⟨⟨⟨u1, u2⟩, u3, u4⟩, hU⟩ : ∃ u, u = upQ a b c d := ⟨_, rfl⟩
  rw [← hU] at hu hle ⊢
  have hu : qsz u1 + qsz u2 + qsz u3 + qsz u4 = qsz a + qsz b + qsz c + qsz d := hu
  have hle : qcmp u1 u3 = 0 → qcmp u2 u4 ≤ 0 := hle
  have s1 : qsz p + qsz u1 < MX := by rw [MX_val]; omega
  have s2 : qsz p + qsz u3 < MX := by rw [MX_val]; omega
  have s3 : qsz u1 + qsz u3 < MX := by rw [MX_val]; omega
  have s4 : qsz u2 + qsz q < MX := by rw [MX_val]; omega
  have s5 : qsz q + qsz u4 < MX := by rw [MX_val]; omega
  have s6 : qsz u2 + qsz u4 < MX := by rw [MX_val]; omega
  by_cases c1 : qcmp p u1 < 0
  · simp [-D.isLit, Tryz.f90, ovC, ovD, zRt, h0, ← hU, s1, c1]
  by_cases c2 : 0 < qcmp p u3
  · simp [-D.isLit, Tryz.f90, ovC, ovD, zRt, h0, ← hU, s1, s2, c1, c2]
  by_cases c3 : qcmp u1 u3 = 0
  · by_cases c4 : qcmp u2 q < 0
    · simp [-D.isLit, Tryz.f90, ovC, ovD, h0, ← hU, s1, s2, s3, s4, s5, c1, c2, c3, c4]
    · simp [-D.isLit, Tryz.f90, ovC, ovD, h0, ← hU, s1, s2, s3, s4, s6, c1, c2, c3, c4]
  · have n1 := sub_ne c3
    have t1 := qsz_sub u4 u2
    have t2 := qsz_sub p u1
    have t3 := qsz_sub u3 u1
    have t4 := qsz_mul (u4 - u2) (p - u1)
    have t5 := qsz_div (a := (u4 - u2) * (p - u1)) n1
    have t6 := ovY_sz (b := u2) (d := u4) (p := p) c3
    have r1 : qsz u4 + qsz u2 < MX := by rw [MX_val]; omega
    have r2 : qsz u3 + qsz u1 < MX := by rw [MX_val]; omega
    have r3 : qsz (u4 - u2) + qsz (p - u1) < MX := by rw [MX_val]; omega
    have r4 : qsz ((u4 - u2) * (p - u1)) + qsz (u3 - u1) < MX := by rw [MX_val]; omega
    have r5 : qsz u2 + qsz ((u4 - u2) * (p - u1) / (u3 - u1)) < MX := by rw [MX_val]; omega
    have r6 : qsz (u2 + (u4 - u2) * (p - u1) / (u3 - u1)) + qsz q < MX := by rw [MX_val]; omega
    simp [-D.isLit, Tryz.f90, ovC, ovD, h0, ← hU, s1, s2, s3, c1, c2, c3, n1, r1, r2, r3, r4, r5, r6]
theorem sgover_ok : callable Tryz.prog 90 = true := by kernel_rfl

/-! i.Above -/
/-- What is met above the place by the k-th piece. -/
def abU (l : List SegT) (v : (Int × Int) × Int × Int) (k : Nat) : Option (Rat × Bool) := match l[k]? with
  | some s => ovS (Rat.divInt s.1.1.1 s.1.1.2) (Rat.divInt s.1.2.1 s.1.2.2) (Rat.divInt s.2.1.1 s.2.1.2) (Rat.divInt s.2.2.1 s.2.2.2) (Rat.divInt v.1.1 v.1.2) (Rat.divInt v.2.1 v.2.2)
  | none => none
/-- The lowest of the first k pieces above. -/
def abF (U : Nat → Option (Rat × Bool)) : Nat → Option (Nat × Rat)
  | 0 => none
  | k + 1 => match U k with
    | some (y, true) => match abF U k with
      | none => some (k, y)
      | some (j, z) => if qcmp y z < 0 then some (k, y) else some (j, z)
    | _ => abF U k
theorem abF_lt {U : Nat → Option (Rat × Bool)} {B : Nat} (hB : ∀ k y b, U k = some (y, b) → qsz y ≤ B) : ∀ k j z, abF U k = some (j, z) → j < k ∧ qsz z ≤ B
  | 0, j, z, h => by cases h
  | k + 1, j, z, h => by
    unfold abF at h
    split at h
    · rename_i y hy
      split at h
      · simp only [Option.some.injEq, Prod.mk.injEq] at h
        obtain ⟨rfl, rfl⟩ := h
        exact ⟨by omega, hB _ _ _ hy⟩
      · rename_i j' z' hz
        have ih := abF_lt hB k j' z' hz
        split at h
        · simp only [Option.some.injEq, Prod.mk.injEq] at h
          obtain ⟨rfl, rfl⟩ := h
          exact ⟨by omega, hB _ _ _ hy⟩
        · simp only [Option.some.injEq, Prod.mk.injEq] at h
          obtain ⟨rfl, rfl⟩ := h
          exact ⟨by omega, ih.2⟩
    · have ih := abF_lt hB k j z h
      exact ⟨by omega, ih.2⟩
theorem abU_at {l : List SegT} {k : Nat} {a b c d e f g h : Int} (hx : l[k]? = some (((a, b), c, d), (e, f), g, h)) (v : (Int × Int) × Int × Int) : abU l v k = ovS (Rat.divInt a b) (Rat.divInt c d) (Rat.divInt e f) (Rat.divInt g h) (Rat.divInt v.1.1 v.1.2) (Rat.divInt v.2.1 v.2.2) := by unfold abU; rw [hx]
theorem abU_sz {l : List SegT} {v : (Int × Int) × Int × Int} (hl : ∀ s ∈ l, sOk s) (hv : vOk v) : ∀ k y b, abU l v k = some (y, b) → qsz y ≤ 100 := by
  intro k y b h
  unfold abU at h
  split at h
  · rename_i s hs
    have h1 := hl s (List.mem_of_getElem? hs)
    have h2 := QI_qsz (qOk_QI h1.1.1.1)
    have h3 := QI_qsz (qOk_QI h1.1.1.2)
    have h4 := QI_qsz (qOk_QI h1.1.2.1)
    have h5 := QI_qsz (qOk_QI h1.1.2.2)
    have h6 := vOk_sz hv
    have := ovS_sz h
    omega
  · cases h
def abT (o : Int × ((Int × Int) × (Int × Int) × Bool)) : List D := .lit (.int .i64 o.1) :: vD o.2
def abO (p : Rat) : Option (Nat × Rat) → Int × ((Int × Int) × (Int × Int) × Bool)
  | none => (-1, (0, 0), (0, 0), false)
  | some (k, y) => if (oV p y).2.2 = true then (k, oV p y) else (-1, (0, 0), (0, 0), false)
def abI (l : List SegT) (v : (Int × Int) × Int × Int) : Int × ((Int × Int) × (Int × Int) × Bool) := if sgsOk l = true ∧ vOk v then abO (Rat.divInt v.1.1 v.1.2) (abF (abU l v) l.length) else (-1, (0, 0), (0, 0), false)
noncomputable def abC := ct2 ESL EV (fun l v => (l.length < 4611686018427387904 ∧ ∀ s ∈ l, S64 s) ∧ V64 v) (fun l v => abT (abI l v))
@[simp] theorem abC_at (l : List SegT) (a b c d : Int) : abC [.sl 8 (l.map ESeg.e), .agg [eQ a b, eQ c d]] = (((l.length < 4611686018427387904 ∧ ∀ s ∈ l, S64 s) ∧ V64 ((a, b), c, d)), abT (abI l ((a, b), c, d))) := ct2_at (A := ESL) (B := EV) l ((a, b), c, d)
def abB : Option (Nat × Rat) → Int
  | none => -1
  | some (k, _) => k
def abP (e : Rat → D) (z : D) (p : Rat) : Option (Nat × Rat) → D
  | none => .agg [z, z]
  | some (_, y) => .agg [e p, e y]
theorem oV_bad {p y : Rat} (h : (oV p y).2.2 = false) : oV p y = ((0, 0), (0, 0), false) := by
  unfold oV at *; split at h
  · cases h
  · rename_i h1; rw [if_neg h1]
noncomputable def iAbTb : List (FuncId × Ct) := [(89, .data segsOkC), (48, .data iVOkC), (50, .data psgC), (52, .data pvC), (90, .data sgoverC), (73, .data rcC), (60, .data ptvC)]
theorem iAbTb_ok {N : NR} : TbOK N Tryz.prog (tbl iAbTb) := tbl_cons (c := .data segsOkC) segsOk_spec segsOk_ok (tbl_cons (c := .data iVOkC) iVOk_spec iVOk_ok (tbl_cons (c := .data psgC) psg_spec psg_ok (tbl_cons (c := .data pvC) pv_spec pv_ok (tbl_cons (c := .data sgoverC) sgover_spec sgover_ok (tbl_cons (c := .data rcC) rcmp_spec rcmp_ok (tbl_cons (c := .data ptvC) ptv_spec ptv_ok tbl_nil))))))

@[simp] theorem iAbTb1 : tbl iAbTb 89 = some (.data segsOkC) := rfl
@[simp] theorem iAbTb2 : tbl iAbTb 48 = some (.data iVOkC) := rfl
@[simp] theorem iAbTb3 : tbl iAbTb 50 = some (.data psgC) := rfl
@[simp] theorem iAbTb4 : tbl iAbTb 52 = some (.data pvC) := rfl
@[simp] theorem iAbTb5 : tbl iAbTb 90 = some (.data sgoverC) := rfl
@[simp] theorem iAbTb6 : tbl iAbTb 73 = some (.data rcC) := rfl
@[simp] theorem iAbTb7 : tbl iAbTb 60 = some (.data ptvC) := rfl
def iAbS (l : List SegT) (v : D) (b : Int) (g : D) (k : Nat) : St := ⟨[.any, .any, .any, .obj 3 [] 0, .any, .obj 5 [] 0, .any, .dat (.lit (.int .i64 b)), .obj 8 [] 0, .any, .any, .any, .any, .any, .any, .any, .any, .any, .any, .any, .any, .any, .any, .any, .dat (.sl 8 (l.map ESeg.e)), .dat (.lit (.int .i64 l.length)), .dat (.lit (.int .i64 k)), .any, .any, .any, .any, .any, .any, .any, .any, .any, .any, .any, .any, .any, .any, .any, .any, .any, .any, .any, .any, .any, .any, .any, .any, .any, .any, .any, .any, .any, .any, .any, .any, .any, .any, .any, .any, .any, .any, .any, .any, .any], [none, none, none, some (.box v), none, some (.box zV), none, none, some (.box g), none, none, none, none, none, none, none, none, none, none, none, none, none, none, none, none, none, none, none, none, none, none, none, none, none, none, none, none, none, none, none, none, none, none, none, none, none, none, none, none, none, none, none, none, none, none, none, none, none, none, none, none, none, none, none, none, none, none, none]⟩
set_option maxRecDepth 100000 in
set_option maxHeartbeats 4000000 in
theorem iAb_spec {N : NR} : SpecD N Tryz.prog 39 abC := by
  refine rd2 (mf := fun f => false) iAbTb_ok (fn := Tryz.f39) (by kernel_rfl) rfl (by kernel_rfl) (by kernel_rfl) ?_
  rintro l ⟨⟨a, b⟩, c, d⟩ ⟨⟨hl, hb⟩, hv⟩
  have hv0 : V64 ((a, b), c, d) := hv
  have i0 : (I64 a ∧ I64 b) ∧ I64 c ∧ I64 d := hv
  generalize hr : abI l ((a, b), c, d) = r
  show awp _ _ _ _ (start _ ([.sl 8 (l.map ESeg.e), .agg [eQ a b, eQ c d]].map .dat) []) (endK _ _ _ ((abT r).map .dat) [])
  simp only [Tryz.f39]
  have c1 := segsOkC_at l
  rw [eq_true (⟨hl, hb⟩ : l.length < 4611686018427387904 ∧ ∀ s ∈ l, S64 s)] at c1
  cases h1 : sgsOk l
  · have e : r = (-1, (0, 0), (0, 0), false) := by rw [← hr]; unfold abI; rw [if_neg (fun x => by have := x.1; rw [h1] at this; cases this)]
    subst e
    rw [h1] at c1
    simp [-D.isLit, -segsOkC_at, c1, abT, vD, eQ, i64D]
  rw [h1] at c1
  by_cases h2 : qOk a b ∧ qOk c d
  case neg =>
    have e : r = (-1, (0, 0), (0, 0), false) := by rw [← hr]; unfold abI; rw [if_neg (fun x => h2 x.2)]
    subst e
    have h2n : (decide (qOk a b) && decide (qOk c d)) = false := by rw [← Bool.decide_and]; exact decide_eq_false h2
    simp [-D.isLit, -segsOkC_at, c1, i0, h2n, abT, vD] <;> exact Sub.refl _
  have h60 : l.length ≤ 60 ∧ ∀ s ∈ l, sOk s := by
    unfold sgsOk at h1
    simp only [Bool.and_eq_true, decide_eq_true_eq, List.all_eq_true] at h1
    exact h1
  have e : r = abO (Rat.divInt a b) (abF (abU l ((a, b), c, d)) l.length) := by rw [← hr]; unfold abI; rw [if_pos ⟨h1, h2⟩]
  have hB := abF_lt (abU_sz h60.2 (v := ((a, b), c, d)) h2)
  have hU := fun k a' b' c' d' e' f' g' h' (x : l[k]? = some (((a', b'), c', d'), (e', f'), g', h')) => abU_at x ((a, b), c, d)
  have hUs := abU_sz h60.2 (v := ((a, b), c, d)) h2
  generalize abU l ((a, b), c, d) = U at *
  have q5 := qOk_QI h2.1
  have q6 := qOk_QI h2.2
  have y5 := qOk_64 h2.1
  have y6 := qOk_64 h2.2
  have z5 := QI_qsz q5
  have z6 := QI_qsz q6
  simp [-D.isLit, -segsOkC_at, c1, i0, h2.1, h2.2]
  refine loop_go (fun n st => ∃ k, n = l.length - k ∧ k ≤ l.length ∧ st = iAbS l (.agg [eQ a b, eQ c d]) (abB (abF U k)) (abP eRat zRt (Rat.divInt a b) (abF U k)) k) (s0 := iAbS l (.agg [eQ a b, eQ c d]) (-1) (.agg [zRt, zRt]) 0) (n := l.length) (snd_of (by simp [LeT, iAbS]) (by simp [iAbS, zRt, zV])) ⟨0, rfl, Nat.zero_le _, rfl⟩ ?_
  rintro n st ⟨k, hn, hk, rfl⟩ KN hN
  by_cases h : k < l.length
  · obtain ⟨a1, b1, c1', d1, e1, f1, g1, k1, hx, p1, m1⟩ := seg_at (E := ESeg.e) h
    have p1 : ix (l.map ESeg.e) k = some (.agg [.agg [eQ a1 b1, eQ c1' d1], .agg [eQ e1 f1, eQ g1 k1]]) := p1
    have hs : segOk a1 b1 c1' d1 e1 f1 g1 k1 := h60.2 _ m1
    have q1 := qOk_QI hs.1.1.1
    have q2 := qOk_QI hs.1.1.2
    have q3 := qOk_QI hs.1.2.1
    have q4 := qOk_QI hs.1.2.2
    have y1 := qOk_64 hs.1.1.1
    have y2 := qOk_64 hs.1.1.2
    have y3 := qOk_64 hs.1.2.1
    have y4 := qOk_64 hs.1.2.2
    have z1 := QI_qsz q1
    have z2 := QI_qsz q2
    have z3 := QI_qsz q3
    have z4 := QI_qsz q4
    have s1 : qsz (Rat.divInt a1 b1) + qsz (Rat.divInt c1' d1) + qsz (Rat.divInt e1 f1) + qsz (Rat.divInt g1 k1) + qsz (Rat.divInt a b) + qsz (Rat.divInt c d) < 10000000 := by omega
    have w1 : IntKind.i64.wrap ((k : Int) + 1) = (k : Int) + 1 := i64_id _ (by omega) (by omega)
    have wk : IntKind.i64.wrap (k : Int) = (k : Int) := i64_id _ (by omega) (by omega)
    have hUk : U k = ovS (Rat.divInt a1 b1) (Rat.divInt c1' d1) (Rat.divInt e1 f1) (Rat.divInt g1 k1) (Rat.divInt a b) (Rat.divInt c d) := hU k _ _ _ _ _ _ _ _ hx
    cases hov : U k with
    | none =>
      have eb : abF U (k + 1) = abF U k := by show (match U k with | some (y, true) => _ | _ => _) = _; rw [hov]
      rw [hov] at hUk
      simp [-D.isLit, iAbS, ovD, h, p1, q1, q2, q3, q4, q5, q6, y1, y2, y3, y4, y5, y6, s1, w1, ← hUk, i0]
      exact hN _ (nx (m := l.length - (k + 1)) (s'' := iAbS l (.agg [eQ a b, eQ c d]) (abB (abF U (k + 1))) (abP eRat zRt (Rat.divInt a b) (abF U (k + 1))) (k + 1)) (snd_obs (n := 68) [(3, 3, .box (.agg [eQ a b, eQ c d])), (5, 5, .box zV), (8, 8, .box (abP eRat zRt (Rat.divInt a b) (abF U (k + 1))))] rfl (by simp [eb, abP]) (by simp [iAbS, eb, abB])) ⟨k + 1, rfl, h, rfl⟩ (by omega))
    | some x =>
      obtain ⟨y, ok⟩ := x
      have hy := hUs k y ok hov
      rw [hov] at hUk
      cases ok with
      | false =>
        have eb : abF U (k + 1) = abF U k := by show (match U k with | some (y, true) => _ | _ => _) = _; rw [hov]
        simp [-D.isLit, iAbS, ovD, h, p1, q1, q2, q3, q4, q5, q6, y1, y2, y3, y4, y5, y6, s1, w1, ← hUk, i0]
        exact hN _ (nx (m := l.length - (k + 1)) (s'' := iAbS l (.agg [eQ a b, eQ c d]) (abB (abF U (k + 1))) (abP eRat zRt (Rat.divInt a b) (abF U (k + 1))) (k + 1)) (snd_obs (n := 68) [(3, 3, .box (.agg [eQ a b, eQ c d])), (5, 5, .box zV), (8, 8, .box (abP eRat zRt (Rat.divInt a b) (abF U (k + 1))))] rfl (by simp [eb, abP]) (by simp [iAbS, eb, abB])) ⟨k + 1, rfl, h, rfl⟩ (by omega))
      | true =>
        cases hA : abF U k with
        | none =>
          have eb : abF U (k + 1) = some (k, y) := by show (match U k with | some (y, true) => _ | _ => _) = _; rw [hov]; simp only []; rw [hA]
          simp [-D.isLit, iAbS, ovD, abB, abP, h, p1, q1, q2, q3, q4, q5, q6, y1, y2, y3, y4, y5, y6, s1, w1, ← hUk, i0]
          exact hN _ (nx (m := l.length - (k + 1)) (s'' := iAbS l (.agg [eQ a b, eQ c d]) (abB (abF U (k + 1))) (abP eRat zRt (Rat.divInt a b) (abF U (k + 1))) (k + 1)) (snd_obs (n := 68) [(3, 3, .box (.agg [eQ a b, eQ c d])), (5, 5, .box zV), (8, 8, .box (abP eRat zRt (Rat.divInt a b) (abF U (k + 1))))] rfl (by simp [eb, abP]) (by simp [iAbS, eb, abB])) ⟨k + 1, rfl, h, rfl⟩ (by omega))
        | some w =>
          obtain ⟨j, z⟩ := w
          obtain ⟨hj, hz⟩ := hB k j z hA
          have hj0 : ¬ ((j : Nat) : Int) < 0 := by omega
          have s2 : qsz y + qsz z < MX := by rw [MX_val]; omega
          have eb : abF U (k + 1) = if qcmp y z < 0 then some (k, y) else some (j, z) := by show (match U k with | some (y, true) => _ | _ => _) = _; rw [hov]; simp only []; rw [hA]
          by_cases hc : qcmp y z < 0
          · rw [if_pos hc] at eb
            simp [-D.isLit, iAbS, ovD, abB, abP, hj0, s2, hc, wk, h, p1, q1, q2, q3, q4, q5, q6, y1, y2, y3, y4, y5, y6, s1, w1, ← hUk, i0]
            exact hN _ (nx (m := l.length - (k + 1)) (s'' := iAbS l (.agg [eQ a b, eQ c d]) (abB (abF U (k + 1))) (abP eRat zRt (Rat.divInt a b) (abF U (k + 1))) (k + 1)) (snd_obs (n := 68) [(3, 3, .box (.agg [eQ a b, eQ c d])), (5, 5, .box zV), (8, 8, .box (abP eRat zRt (Rat.divInt a b) (abF U (k + 1))))] rfl (by simp [eb, abP]) (by simp [iAbS, eb, abB])) ⟨k + 1, rfl, h, rfl⟩ (by omega))
          · rw [if_neg hc] at eb
            simp [-D.isLit, iAbS, ovD, abB, abP, hj0, s2, hc, wk, h, p1, q1, q2, q3, q4, q5, q6, y1, y2, y3, y4, y5, y6, s1, w1, ← hUk, i0]
            exact hN _ (nx (m := l.length - (k + 1)) (s'' := iAbS l (.agg [eQ a b, eQ c d]) (abB (abF U (k + 1))) (abP eRat zRt (Rat.divInt a b) (abF U (k + 1))) (k + 1)) (snd_obs (n := 68) [(3, 3, .box (.agg [eQ a b, eQ c d])), (5, 5, .box zV), (8, 8, .box (abP eRat zRt (Rat.divInt a b) (abF U (k + 1))))] rfl (by simp [eb, abP]) (by simp [iAbS, eb, abB])) ⟨k + 1, rfl, h, rfl⟩ (by omega))
  · have hkl : k = l.length := by omega
    subst hkl
    generalize abF U l.length = A at *
    subst e
    cases A with
    | none => simp [-D.isLit, iAbS, abB, abP, abO, abT, vD, zV, eQ, i64D]
    | some x =>
      obtain ⟨j, y⟩ := x
      have hj : ¬ ((j : Nat) : Int) < 0 := by omega
      cases ho : (oV (Rat.divInt a b) y).2.2
      · have hbad := oV_bad ho
        simp [-D.isLit, iAbS, abB, abP, abO, abT, vD, zV, eQ, i64D, hj, hbad]
      · simp [-D.isLit, iAbS, abB, abP, abO, abT, vD, zV, eQ, i64D, hj, ho]
theorem iAb_ok : callable Tryz.prog 39 = true := by kernel_rfl
end Go.Proofs.YtlniifhdimaliaaGreat.Ae

/-! Above: the reference, and the law. No condition. -/
namespace Go.Proofs.YtlniifhdimaliaaGreat.Ae
open Go Go.RowKit Go.Proofs.YtlniifhdimaliaaGreat.Dig
def zRn : D := .agg [.lit (.int .i64 0), .lit (.int .i64 0), .lit (.slice none 0 0)]
@[simp] theorem zRn_size : zRn.size = 3 := rfl
theorem y_same (b d p a c : Rat) : b + (d - b) * ((p - a) / (c - a)) = b + (d - b) * (p - a) / (c - a) := by
  rw [Rat.div_def, Rat.div_def, Rat.mul_assoc]

/-! s.l3Order -/
noncomputable def l3Ord2C := ct2 EPn EPn (fun p0 p1 => qsz p0.1 + qsz p0.2 + qsz p1.1 + qsz p1.2 < LM) (fun p0 p1 => [.agg [nD (upQ p0.1 p0.2 p1.1 p1.2).1.1, nD (upQ p0.1 p0.2 p1.1 p1.2).1.2], .agg [nD (upQ p0.1 p0.2 p1.1 p1.2).2.1, nD (upQ p0.1 p0.2 p1.1 p1.2).2.2]])
@[simp] theorem l3Ord2C_at (a b : Rat) (c d : Rat) : l3Ord2C [.agg [nD a, nD b], .agg [nD c, nD d]] = (qsz a + qsz b + qsz c + qsz d < LM, [.agg [nD (upQ a b c d).1.1, nD (upQ a b c d).1.2], .agg [nD (upQ a b c d).2.1, nD (upQ a b c d).2.2]]) := ct2_at (a, b) (c, d)
noncomputable def l3Ord2Tb : List (FuncId × Ct) := [(117, .data l3CmpC)]
theorem l3Ord2Tb_ok : TbOK NF Tryz.prog (tbl l3Ord2Tb) := tbl_cons (c := .data l3CmpC) l3Cmp_spec l3Cmp_ok tbl_nil

@[simp] theorem l3Ord2Tb1 : tbl l3Ord2Tb 117 = some (.data l3CmpC) := rfl
theorem l3Ord2_spec : SpecD NF Tryz.prog 116 l3Ord2C := by
  refine rd2 (mf := fun f => f == cel 4 || f == cel 5) l3Ord2Tb_ok (fn := Tryz.f116) (by kernel_rfl) rfl (by kernel_rfl) (by kernel_rfl) ?_
  rintro ⟨a, b⟩ ⟨c, d⟩ hp
  have hp : qsz a + qsz b + qsz c + qsz d < LM := hp
  show awp _ _ _ _ (start _ ([.agg [nD a, nD b], .agg [nD c, nD d]].map .dat) []) (endK _ _ _ (([.agg [nD (upQ a b c d).1.1, nD (upQ a b c d).1.2], .agg [nD (upQ a b c d).2.1, nD (upQ a b c d).2.2]]).map .dat) [])
  by_cases h : 0 < pcmp a b c d <;> simp [-D.isLit, Tryz.f116, upQ, hp, h]
theorem l3Ord2_ok : callable Tryz.prog 116 = true := by kernel_rfl

/-! s.l5Up -/
noncomputable def l5UpC := ct3 EPn EPn EPn (fun p0 p1 p2 => qsz p1.1 + qsz p1.2 + qsz p2.1 + qsz p2.2 + qsz p0.1 + qsz p0.2 < 10000000) (fun p0 p1 p2 => ovD nD zRn p0.1 (ovS p1.1 p1.2 p2.1 p2.2 p0.1 p0.2))
@[simp] theorem l5UpC_at (p q : Rat) (a b : Rat) (c d : Rat) : l5UpC [.agg [nD p, nD q], .agg [nD a, nD b], .agg [nD c, nD d]] = (qsz a + qsz b + qsz c + qsz d + qsz p + qsz q < 10000000, ovD nD zRn p (ovS a b c d p q)) := ct3_at (p, q) (a, b) (c, d)
noncomputable def l5UpTb : List (FuncId × Ct) := [(116, .data l3Ord2C), (71, .data nCmpC), (110, .data nSubC), (104, .data nDivC), (54, .data l3AtC)]
theorem l5UpTb_ok : TbOK NF Tryz.prog (tbl l5UpTb) := tbl_cons (c := .data l3Ord2C) l3Ord2_spec l3Ord2_ok (tbl_cons (c := .data nCmpC) nCmp_spec l1rCmp_ok (tbl_cons (c := .data nSubC) nSub_spec l1rSub_ok (tbl_cons (c := .data nDivC) nDiv_spec l1rDiv_ok (tbl_cons (c := .data l3AtC) l3At_spec l3At_ok tbl_nil))))

@[simp] theorem l5UpTb1 : tbl l5UpTb 116 = some (.data l3Ord2C) := rfl
@[simp] theorem l5UpTb2 : tbl l5UpTb 71 = some (.data nCmpC) := rfl
@[simp] theorem l5UpTb3 : tbl l5UpTb 110 = some (.data nSubC) := rfl
@[simp] theorem l5UpTb4 : tbl l5UpTb 104 = some (.data nDivC) := rfl
@[simp] theorem l5UpTb5 : tbl l5UpTb 54 = some (.data l3AtC) := rfl
set_option maxRecDepth 100000 in
set_option maxHeartbeats 4000000 in
theorem l5Up_spec : SpecD NF Tryz.prog 88 l5UpC := by
  refine rd3 (mf := fun f => false) l5UpTb_ok (fn := Tryz.f88) (by kernel_rfl) rfl (by kernel_rfl) (by kernel_rfl) ?_
  rintro ⟨p, q⟩ ⟨a, b⟩ ⟨c, d⟩ hp
  have hp : qsz a + qsz b + qsz c + qsz d + qsz p + qsz q < 10000000 := hp
  show awp _ _ _ _ (start _ ([.agg [nD p, nD q], .agg [nD a, nD b], .agg [nD c, nD d]].map .dat) []) (endK _ _ _ ((ovD nD zRn p (ovS a b c d p q)).map .dat) [])
  have hu := upQ_sz2 a b c d
  have hle := upQ_le a b c d
  have h0 : qsz a + qsz b + qsz c + qsz d < LM := by rw [LM_val]; omega
  unfold ovS
  obtain ⟨⟨⟨u1, u2⟩, u3, u4⟩, hU⟩ : ∃ u, u = upQ a b c d := ⟨_, rfl⟩
  rw [← hU] at hu hle ⊢
  have hu : qsz u1 + qsz u2 + qsz u3 + qsz u4 = qsz a + qsz b + qsz c + qsz d := hu
  have hle : qcmp u1 u3 = 0 → qcmp u2 u4 ≤ 0 := hle
  have s1 : qsz p + qsz u1 < MX := by rw [MX_val]; omega
  have s2 : qsz p + qsz u3 < MX := by rw [MX_val]; omega
  have s3 : qsz u1 + qsz u3 < MX := by rw [MX_val]; omega
  have s4 : qsz u2 + qsz q < MX := by rw [MX_val]; omega
  have s5 : qsz q + qsz u4 < MX := by rw [MX_val]; omega
  have s6 : qsz u2 + qsz u4 < MX := by rw [MX_val]; omega
  have s7 : qsz u4 + qsz q < MX := by rw [MX_val]; omega
  by_cases c1 : qcmp p u1 < 0
  · simp [-D.isLit, Tryz.f88, ovC, ovD, zRn, h0, ← hU, s1, c1]
  by_cases c2 : 0 < qcmp p u3
  · simp [-D.isLit, Tryz.f88, ovC, ovD, zRn, h0, ← hU, s1, s2, c1, c2]
  by_cases c3 : qcmp u1 u3 = 0
  · have e13 : u1 = u3 := (qcmp_eq _ _).1 c3
    have ep : p = u1 := by
      have k1 : ¬ p < u1 := fun x => c1 ((qcmp_lt _ _).2 x)
      have k2 : ¬ u3 < p := fun x => c2 ((qcmp_gt _ _).2 x)
      grind
    by_cases c4 : qcmp u2 q < 0
    · have c5 : ¬ 0 ≤ qcmp u2 q := by omega
      have c6 : qcmp u4 q = - qcmp q u4 := qcmp_swap q u4
      simp [-D.isLit, Tryz.f88, ovC, ovD, h0, ← hU, s1, s2, s3, s4, s7, c1, c2, c3, c4, c5, c6]
    · subst ep
      have c5 : 0 ≤ qcmp u2 q := by omega
      simp [-D.isLit, Tryz.f88, ovC, ovD, h0, ← hU, s1, s2, s3, s4, c1, c2, c3, c4, c5, hle c3]
  · have n1 := sub_ne c3
    have t2 := qsz_sub p u1
    have t3 := qsz_sub u3 u1
    have t5 := qsz_div (a := p - u1) n1
    have t6 := ovY_sz (b := u2) (d := u4) (p := p) c3
    have r1 : qsz p + qsz u1 < MX := by rw [MX_val]; omega
    have r2 : qsz u3 + qsz u1 < MX := by rw [MX_val]; omega
    have r4 : qsz (p - u1) + qsz (u3 - u1) < MX := by rw [MX_val]; omega
    have r5 : qsz u1 + qsz u2 + qsz u3 + qsz u4 + qsz ((p - u1) / (u3 - u1)) < 100000000 := by omega
    have r6 : qsz (u2 + (u4 - u2) * (p - u1) / (u3 - u1)) + qsz q < MX := by rw [MX_val]; omega
    have ys := y_same u2 u4 p u1 u3
    simp [-D.isLit, Tryz.f88, ovC, ovD, h0, ← hU, s1, s2, s3, c1, c2, c3, n1, r1, r2, r4, r5, r6, ys]
theorem l5Up_ok : callable Tryz.prog 88 = true := by kernel_rfl

/-! s.Above -/
noncomputable def sAbTb : List (FuncId × Ct) := [(87, .data l5OkC), (43, .data sVOkC), (46, .data l3pC), (88, .data l5UpC), (71, .data nCmpC), (53, .data l3VC)]
theorem sAbTb_ok : TbOK NF Tryz.prog (tbl sAbTb) := tbl_cons (c := .data l5OkC) l5Ok_spec l5Ok_ok (tbl_cons (c := .data sVOkC) sVOk_spec sVOk_ok (tbl_cons (c := .data l3pC) l3p_spec l3p_ok (tbl_cons (c := .data l5UpC) l5Up_spec l5Up_ok (tbl_cons (c := .data nCmpC) nCmp_spec l1rCmp_ok (tbl_cons (c := .data l3VC) l3V_spec l3V_ok tbl_nil)))))

@[simp] theorem sAbTb1 : tbl sAbTb 87 = some (.data l5OkC) := rfl
@[simp] theorem sAbTb2 : tbl sAbTb 43 = some (.data sVOkC) := rfl
@[simp] theorem sAbTb3 : tbl sAbTb 46 = some (.data l3pC) := rfl
@[simp] theorem sAbTb4 : tbl sAbTb 88 = some (.data l5UpC) := rfl
@[simp] theorem sAbTb5 : tbl sAbTb 71 = some (.data nCmpC) := rfl
@[simp] theorem sAbTb6 : tbl sAbTb 53 = some (.data l3VC) := rfl
def sAbS (l : List SegT) (v : D) (b : Int) (g : D) (k : Nat) : St := ⟨[.dat (.sl 8 (l.map ESeg.e)), .any, .any, .obj 3 [] 0, .any, .obj 5 [] 0, .any, .dat (.lit (.int .i64 b)), .obj 8 [] 0, .dat (.lit (.int .i64 k)), .any, .any, .any, .any, .any, .any, .any, .any, .any, .any, .any, .any, .any, .any, .any, .any, .any, .any, .any, .any, .any, .any, .any, .any, .any, .any, .any, .any, .any, .any, .any, .any, .any, .any, .any, .any, .any, .any, .any, .any, .any, .any, .any, .any, .any, .any, .any, .any, .any, .any, .any, .any, .any, .any, .any, .any, .any, .any, .any, .any, .any, .any, .any, .any, .any, .any], [none, none, none, some (.box v), none, some (.box zV), none, none, some (.box g), none, none, none, none, none, none, none, none, none, none, none, none, none, none, none, none, none, none, none, none, none, none, none, none, none, none, none, none, none, none, none, none, none, none, none, none, none, none, none, none, none, none, none, none, none, none, none, none, none, none, none, none, none, none, none, none, none, none, none, none, none, none, none, none, none, none, none]⟩
set_option maxRecDepth 100000 in
set_option maxHeartbeats 4000000 in
theorem sAb_spec : SpecD NF Tryz.prog 37 abC := by
  refine rd2 (mf := fun f => false) sAbTb_ok (fn := Tryz.f37) (by kernel_rfl) rfl (by kernel_rfl) (by kernel_rfl) ?_
  rintro l ⟨⟨a, b⟩, c, d⟩ ⟨⟨hl, hb⟩, hv⟩
  have hv0 : V64 ((a, b), c, d) := hv
  have i0 : (I64 a ∧ I64 b) ∧ I64 c ∧ I64 d := hv
  generalize hr : abI l ((a, b), c, d) = r
  show awp _ _ _ _ (start _ ([.sl 8 (l.map ESeg.e), .agg [eQ a b, eQ c d]].map .dat) []) (endK _ _ _ ((abT r).map .dat) [])
  simp only [Tryz.f37]
  have c1 := l5OkC_at l
  rw [eq_true (⟨hl, hb⟩ : l.length < 4611686018427387904 ∧ ∀ s ∈ l, S64 s)] at c1
  cases h1 : sgsOk l
  · have e : r = (-1, (0, 0), (0, 0), false) := by rw [← hr]; unfold abI; rw [if_neg (fun x => by have := x.1; rw [h1] at this; cases this)]
    subst e
    rw [h1] at c1
    simp [-D.isLit, -l5OkC_at, c1, abT, vD, eQ, i64D]
  rw [h1] at c1
  by_cases h2 : qOk a b ∧ qOk c d
  case neg =>
    have e : r = (-1, (0, 0), (0, 0), false) := by rw [← hr]; unfold abI; rw [if_neg (fun x => h2 x.2)]
    subst e
    have h2n : (decide (qOk a b) && decide (qOk c d)) = false := by rw [← Bool.decide_and]; exact decide_eq_false h2
    simp [-D.isLit, -l5OkC_at, c1, i0, h2n, abT, vD] <;> exact Sub.refl _
  have h60 : l.length ≤ 60 ∧ ∀ s ∈ l, sOk s := by
    unfold sgsOk at h1
    simp only [Bool.and_eq_true, decide_eq_true_eq, List.all_eq_true] at h1
    exact h1
  have e : r = abO (Rat.divInt a b) (abF (abU l ((a, b), c, d)) l.length) := by rw [← hr]; unfold abI; rw [if_pos ⟨h1, h2⟩]
  have hB := abF_lt (abU_sz h60.2 (v := ((a, b), c, d)) h2)
  have hU := fun k a' b' c' d' e' f' g' h' (x : l[k]? = some (((a', b'), c', d'), (e', f'), g', h')) => abU_at x ((a, b), c, d)
  have hUs := abU_sz h60.2 (v := ((a, b), c, d)) h2
  generalize abU l ((a, b), c, d) = U at *
  have q5 := qOk_QI h2.1
  have q6 := qOk_QI h2.2
  have y5 := qOk_64 h2.1
  have y6 := qOk_64 h2.2
  have z5 := QI_qsz q5
  have z6 := QI_qsz q6
  simp [-D.isLit, -l5OkC_at, c1, i0, h2.1, h2.2]
  refine loop_go (fun n st => ∃ k, n = l.length - k ∧ k ≤ l.length ∧ st = sAbS l (.agg [eQ a b, eQ c d]) (abB (abF U k)) (abP nD zRn (Rat.divInt a b) (abF U k)) k) (s0 := sAbS l (.agg [eQ a b, eQ c d]) (-1) (.agg [zRn, zRn]) 0) (n := l.length) (snd_of (by simp [LeT, sAbS]) (by simp [sAbS, zRn, zV])) ⟨0, rfl, Nat.zero_le _, rfl⟩ ?_
  rintro n st ⟨k, hn, hk, rfl⟩ KN hN
  by_cases h : k < l.length
  · obtain ⟨a1, b1, c1', d1, e1, f1, g1, k1, hx, p1, m1⟩ := seg_at (E := ESeg.e) h
    have p1 : ix (l.map ESeg.e) k = some (.agg [.agg [eQ a1 b1, eQ c1' d1], .agg [eQ e1 f1, eQ g1 k1]]) := p1
    have hs : segOk a1 b1 c1' d1 e1 f1 g1 k1 := h60.2 _ m1
    have q1 := qOk_QI hs.1.1.1
    have q2 := qOk_QI hs.1.1.2
    have q3 := qOk_QI hs.1.2.1
    have q4 := qOk_QI hs.1.2.2
    have y1 := qOk_64 hs.1.1.1
    have y2 := qOk_64 hs.1.1.2
    have y3 := qOk_64 hs.1.2.1
    have y4 := qOk_64 hs.1.2.2
    have z1 := QI_qsz q1
    have z2 := QI_qsz q2
    have z3 := QI_qsz q3
    have z4 := QI_qsz q4
    have s1 : qsz (Rat.divInt a1 b1) + qsz (Rat.divInt c1' d1) + qsz (Rat.divInt e1 f1) + qsz (Rat.divInt g1 k1) + qsz (Rat.divInt a b) + qsz (Rat.divInt c d) < 10000000 := by omega
    have w1 : IntKind.i64.wrap ((k : Int) + 1) = (k : Int) + 1 := i64_id _ (by omega) (by omega)
    have wk : IntKind.i64.wrap (k : Int) = (k : Int) := i64_id _ (by omega) (by omega)
    have hUk : U k = ovS (Rat.divInt a1 b1) (Rat.divInt c1' d1) (Rat.divInt e1 f1) (Rat.divInt g1 k1) (Rat.divInt a b) (Rat.divInt c d) := hU k _ _ _ _ _ _ _ _ hx
    cases hov : U k with
    | none =>
      have eb : abF U (k + 1) = abF U k := by show (match U k with | some (y, true) => _ | _ => _) = _; rw [hov]
      rw [hov] at hUk
      simp [-D.isLit, sAbS, ovD, h, p1, q1, q2, q3, q4, q5, q6, y1, y2, y3, y4, y5, y6, s1, w1, ← hUk, i0]
      exact hN _ (nx (m := l.length - (k + 1)) (s'' := sAbS l (.agg [eQ a b, eQ c d]) (abB (abF U (k + 1))) (abP nD zRn (Rat.divInt a b) (abF U (k + 1))) (k + 1)) (snd_obs (n := 76) [(3, 3, .box (.agg [eQ a b, eQ c d])), (5, 5, .box zV), (8, 8, .box (abP nD zRn (Rat.divInt a b) (abF U (k + 1))))] rfl (by simp [eb, abP]) (by simp [sAbS, eb, abB])) ⟨k + 1, rfl, h, rfl⟩ (by omega))
    | some x =>
      obtain ⟨y, ok⟩ := x
      have hy := hUs k y ok hov
      rw [hov] at hUk
      cases ok with
      | false =>
        have eb : abF U (k + 1) = abF U k := by show (match U k with | some (y, true) => _ | _ => _) = _; rw [hov]
        simp [-D.isLit, sAbS, ovD, h, p1, q1, q2, q3, q4, q5, q6, y1, y2, y3, y4, y5, y6, s1, w1, ← hUk, i0]
        exact hN _ (nx (m := l.length - (k + 1)) (s'' := sAbS l (.agg [eQ a b, eQ c d]) (abB (abF U (k + 1))) (abP nD zRn (Rat.divInt a b) (abF U (k + 1))) (k + 1)) (snd_obs (n := 76) [(3, 3, .box (.agg [eQ a b, eQ c d])), (5, 5, .box zV), (8, 8, .box (abP nD zRn (Rat.divInt a b) (abF U (k + 1))))] rfl (by simp [eb, abP]) (by simp [sAbS, eb, abB])) ⟨k + 1, rfl, h, rfl⟩ (by omega))
      | true =>
        cases hA : abF U k with
        | none =>
          have eb : abF U (k + 1) = some (k, y) := by show (match U k with | some (y, true) => _ | _ => _) = _; rw [hov]; simp only []; rw [hA]
          simp [-D.isLit, sAbS, ovD, abB, abP, h, p1, q1, q2, q3, q4, q5, q6, y1, y2, y3, y4, y5, y6, s1, w1, ← hUk, i0]
          exact hN _ (nx (m := l.length - (k + 1)) (s'' := sAbS l (.agg [eQ a b, eQ c d]) (abB (abF U (k + 1))) (abP nD zRn (Rat.divInt a b) (abF U (k + 1))) (k + 1)) (snd_obs (n := 76) [(3, 3, .box (.agg [eQ a b, eQ c d])), (5, 5, .box zV), (8, 8, .box (abP nD zRn (Rat.divInt a b) (abF U (k + 1))))] rfl (by simp [eb, abP]) (by simp [sAbS, eb, abB])) ⟨k + 1, rfl, h, rfl⟩ (by omega))
        | some w =>
          obtain ⟨j, z⟩ := w
          obtain ⟨hj, hz⟩ := hB k j z hA
          have hj0 : ¬ ((j : Nat) : Int) < 0 := by omega
          have s2 : qsz y + qsz z < MX := by rw [MX_val]; omega
          have eb : abF U (k + 1) = if qcmp y z < 0 then some (k, y) else some (j, z) := by show (match U k with | some (y, true) => _ | _ => _) = _; rw [hov]; simp only []; rw [hA]
          by_cases hc : qcmp y z < 0
          · rw [if_pos hc] at eb
            simp [-D.isLit, sAbS, ovD, abB, abP, hj0, s2, hc, wk, h, p1, q1, q2, q3, q4, q5, q6, y1, y2, y3, y4, y5, y6, s1, w1, ← hUk, i0]
            exact hN _ (nx (m := l.length - (k + 1)) (s'' := sAbS l (.agg [eQ a b, eQ c d]) (abB (abF U (k + 1))) (abP nD zRn (Rat.divInt a b) (abF U (k + 1))) (k + 1)) (snd_obs (n := 76) [(3, 3, .box (.agg [eQ a b, eQ c d])), (5, 5, .box zV), (8, 8, .box (abP nD zRn (Rat.divInt a b) (abF U (k + 1))))] rfl (by simp [eb, abP]) (by simp [sAbS, eb, abB])) ⟨k + 1, rfl, h, rfl⟩ (by omega))
          · rw [if_neg hc] at eb
            simp [-D.isLit, sAbS, ovD, abB, abP, hj0, s2, hc, wk, h, p1, q1, q2, q3, q4, q5, q6, y1, y2, y3, y4, y5, y6, s1, w1, ← hUk, i0]
            exact hN _ (nx (m := l.length - (k + 1)) (s'' := sAbS l (.agg [eQ a b, eQ c d]) (abB (abF U (k + 1))) (abP nD zRn (Rat.divInt a b) (abF U (k + 1))) (k + 1)) (snd_obs (n := 76) [(3, 3, .box (.agg [eQ a b, eQ c d])), (5, 5, .box zV), (8, 8, .box (abP nD zRn (Rat.divInt a b) (abF U (k + 1))))] rfl (by simp [eb, abP]) (by simp [sAbS, eb, abB])) ⟨k + 1, rfl, h, rfl⟩ (by omega))
  · have hkl : k = l.length := by omega
    subst hkl
    generalize abF U l.length = A at *
    subst e
    cases A with
    | none => simp [-D.isLit, sAbS, abB, abP, abO, abT, vD, zV, eQ, i64D]
    | some x =>
      obtain ⟨j, y⟩ := x
      have hj : ¬ ((j : Nat) : Int) < 0 := by omega
      cases ho : (oV (Rat.divInt a b) y).2.2
      · have hbad := oV_bad ho
        simp [-D.isLit, sAbS, abB, abP, abO, abT, vD, zV, eQ, i64D, hj, hbad]
      · simp [-D.isLit, sAbS, abB, abP, abO, abT, vD, zV, eQ, i64D, hj, ho]
theorem sAb_ok : callable Tryz.prog 37 = true := by kernel_rfl

/-! l.FnExactAbove -/
noncomputable def lwAbC := ct2 ESL EV (fun l v => (l.length ≤ 9223372036854775807 ∧ ∀ u ∈ l, S64 u) ∧ V64 v) (fun l v => [.lit (.bool true)])
theorem lwAbC_at (l : List SegT) (a b c d : Int) : lwAbC [.sl 8 (l.map ESeg.e), .agg [eQ a b, eQ c d]] = (((l.length ≤ 9223372036854775807 ∧ ∀ u ∈ l, S64 u) ∧ V64 ((a, b), c, d)), [.lit (.bool true)]) := ct2_at (A := ESL) (B := EV) l ((a, b), c, d)
noncomputable def lwAbTb : List (FuncId × Ct) := [(36, .data szSegSC), (38, .data toSegSC), (13, .data toVC), (39, .data abC), (37, .data abC), (18, .data eqVC), (40, .data eqSegSC)]
theorem lwAbTb_ok : TbOK NF Tryz.prog (tbl lwAbTb) := tbl_cons (c := .data szSegSC) szSegS_spec szSegS_ok (tbl_cons (c := .data toSegSC) toSegS_spec toSegS_ok (tbl_cons (c := .data toVC) toV_spec toV_ok (tbl_cons (c := .data abC) iAb_spec iAb_ok (tbl_cons (c := .data abC) sAb_spec sAb_ok (tbl_cons (c := .data eqVC) eqV_spec eqV_ok (tbl_cons (c := .data eqSegSC) eqSegS_spec eqSegS_ok tbl_nil))))))

@[simp] theorem lwAbTb1 : tbl lwAbTb 36 = some (.data szSegSC) := rfl
@[simp] theorem lwAbTb2 : tbl lwAbTb 38 = some (.data toSegSC) := rfl
@[simp] theorem lwAbTb3 : tbl lwAbTb 13 = some (.data toVC) := rfl
@[simp] theorem lwAbTb4 : tbl lwAbTb 39 = some (.data abC) := rfl
@[simp] theorem lwAbTb5 : tbl lwAbTb 37 = some (.data abC) := rfl
@[simp] theorem lwAbTb6 : tbl lwAbTb 18 = some (.data eqVC) := rfl
@[simp] theorem lwAbTb7 : tbl lwAbTb 40 = some (.data eqSegSC) := rfl
set_option maxRecDepth 100000 in
theorem lwAb_spec : SpecD NF Tryz.prog 10 lwAbC := by
  refine rd2 (mf := fun f => false) lwAbTb_ok (fn := Tryz.f10) (by kernel_rfl) rfl (by kernel_rfl) (by kernel_rfl) ?_
  rintro l ⟨⟨a, b⟩, c, d⟩ ⟨⟨hl, hb⟩, hv⟩
  have hv0 : V64 ((a, b), c, d) := hv
  show awp _ _ _ _ (start _ ([.sl 8 (l.map ESeg.e), .agg [eQ a b, eQ c d]].map .dat) []) (endK _ _ _ ([D.lit (.bool true)].map .dat) [])
  by_cases h : (1048576 : Int) < l.length
  · simp [-D.isLit, -abC_at, Tryz.f10, hl, h]
  · have h' : ¬ (1048576 : Int) - l.length < 0 := by omega
    have h'' : l.length < 2097152 := by omega
    have h3 : l.length < 4611686018427387904 := by omega
    have c1 := abC_at l a b c d
    rw [eq_true (⟨⟨h3, hb⟩, hv0⟩ : (l.length < 4611686018427387904 ∧ ∀ u ∈ l, S64 u) ∧ V64 ((a, b), c, d))] at c1
    generalize abI l ((a, b), c, d) = r at c1
    simp [-D.isLit, -abC_at, Tryz.f10, c1, hl, h, h', h'', h3, abT, vD]
theorem lwAb_ok : callable Tryz.prog 10 = true := by kernel_rfl
set_option maxRecDepth 100000 in
theorem lwAbove_calls {d0 d1 : D} (s0 : shp Tryz.prog 8 65 d0) (s1 : shp Tryz.prog 8 25 d1) {v0 v1 : Value} {w : World} (hrep : RepVs NF (fun b => b < w.heap.size) w [d0, d1] [v0, v1]) :
    Calls Tryz.prog 10 #[v0, v1] w fun e w' => e = .returned (.bool true) ∧ Below w.heap.size w w' := by
  obtain ⟨l, rfl, hl, hb⟩ := shp_lSegS (n := 3) s0
  obtain ⟨⟨⟨a, b⟩, c, d⟩, rfl, hv⟩ := shp_lV (n := 5) s1
  have hl' : l.length ≤ 9223372036854775807 := hl
  exact law_callsM lwAb_spec (ds := [.sl 8 (l.map ESeg.e), .agg [eQ a b, eQ c d]]) (by rw [lwAbC_at]; exact ⟨⟨hl', hb⟩, hv⟩) (by rw [lwAbC_at]; rfl) (vs := [v0, v1]) hrep
end Go.Proofs.YtlniifhdimaliaaGreat.Ae
