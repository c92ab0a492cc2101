/- Texts put together, in the order in which they build: R1, R2, R3, T9, T10, T11, T12, T13, T14. No condition. -/
import Derived.Test.YtlniifhdimaliaaGreatZ5
import Derived.OpenShut
import Derived.ChangeArms
import Derived.WideShapes
set_option linter.unusedVariables false
set_option linter.unusedSimpArgs false
/-! What is handed to a law, read as data: from the walk over a value in memory. No condition. -/
namespace Go.Proofs.YtlniifhdimaliaaGreat.Ae
open Go

/-- Data of a type. -/
def shp (P : Program) : Nat → TypeId → D → Prop
  | 0, _, _ => False
  | n + 1, t, d => match P.underlying t with
    | some .bool => ∃ b, d = .lit (.bool b)
    | some (.int k) => ∃ x, d = .lit (.int k x) ∧ (Lit.int k x).wf = true
    | some .string => ∃ s : ByteArray, d = .lit (.string s) ∧ s.size ≤ maxLen
    | some (.struct fs) => ∃ ds, d = .agg ds ∧ ds.length = fs.toList.length ∧ ∀ (i : Nat) (f : Field) (x : D), fs.toList[i]? = some f → ds[i]? = some x → shp P n f.type x
    | some (.slice e) => ∃ xs, d = .sl (P.cellsOf e) xs ∧ xs.length ≤ maxLen ∧ ∀ x ∈ xs, shp P n e x
    | _ => False
/-- A struct's fields lie one behind another. -/
def layF (P : Program) : List Field → Nat → Nat → Bool
  | [], o, c => o == c
  | f :: fs, o, c => f.offset == o && layF P fs (o + P.cellsOf f.type) c
def layT (P : Program) : Nat → TypeId → Bool
  | 0, _ => false
  | n + 1, t => match P.underlying t with
    | some .bool | some (.int _) | some .string => true
    | some (.struct fs) => layF P fs.toList 0 (P.cellsOf t) && fs.toList.all fun f => layT P n f.type
    | some (.slice e) => Nat.blt 0 (P.cellsOf e) && layT P n e
    | _ => false

theorem list_of {α : Type} {p : Nat → α → Prop} : ∀ n : Nat, (∀ i, i < n → ∃ d, p i d) → ∃ l : List α, l.length = n ∧ ∀ (i : Nat) (d : α), l[i]? = some d → p i d
  | 0, _ => ⟨[], rfl, fun i d h => by simp at h⟩
  | n + 1, h => by
    obtain ⟨d0, h0⟩ := h 0 (by omega)
    obtain ⟨l, hl, hp⟩ := list_of (p := fun i => p (i + 1)) n (fun i hi => h (i + 1) (by omega))
    refine ⟨d0 :: l, by simp [hl], fun i d hd => ?_⟩
    cases i with
    | zero => simp at hd; subst hd; exact h0
    | succ i => exact hp i d (by simpa using hd)
theorem fields_rep {N : NR} {F : Nat → Prop} {w : World} {P : Program} {n : Nat} : ∀ (l : List Field) (o c : Nat) (cs : List Value), layF P l o c = true → cs.length = c - o → o ≤ c →
    (∀ (i : Nat) (f : Field), l[i]? = some f → ∃ d, Rep N F w d ((cs.drop (f.offset - o)).take (P.cellsOf f.type)) ∧ shp P n f.type d ∧ ((cs.drop (f.offset - o)).take (P.cellsOf f.type)).length = P.cellsOf f.type) →
    ∃ (ds : List D) (css : List (List Value)), css.flatten = cs ∧ css.length = ds.length ∧ ds.length = l.length ∧ (∀ (i : Nat) (d : D) (x : List Value), ds[i]? = some d → css[i]? = some x → Rep N F w d x) ∧ ∀ (i : Nat) (f : Field) (x : D), l[i]? = some f → ds[i]? = some x → shp P n f.type x
  | [], o, c, cs, hl, hc, ho, h => by
    simp only [layF, beq_iff_eq] at hl
    subst hl
    rw [Nat.sub_self] at hc
    exact ⟨[], [], (List.eq_nil_of_length_eq_zero hc).symm, rfl, rfl, fun i d x h => by simp at h, fun i f x h => by simp at h⟩
  | f :: l, o, c, cs, hl, hc, ho, h => by
    simp only [layF, Bool.and_eq_true, beq_iff_eq] at hl
    obtain ⟨rfl, hl⟩ := hl
    obtain ⟨d0, r0, s0, e0⟩ := h 0 f rfl
    rw [Nat.sub_self, List.drop_zero] at r0 e0
    have hle : P.cellsOf f.type ≤ cs.length := by
      have := List.length_take_le (P.cellsOf f.type) cs
      rw [List.length_take] at e0
      omega
    have mono : ∀ (l : List Field) (o : Nat), layF P l o c = true → o ≤ c ∧ ∀ g ∈ l, o ≤ g.offset := by
      intro l
      induction l with
      | nil => intro o h; simp only [layF, beq_iff_eq] at h; exact ⟨by omega, fun g hg => by simp at hg⟩
      | cons g l ih =>
        intro o h
        simp only [layF, Bool.and_eq_true, beq_iff_eq] at h
        obtain ⟨i1, i2⟩ := ih _ h.2
        refine ⟨by omega, fun g' hg => ?_⟩
        rcases List.mem_cons.1 hg with rfl | hg
        · omega
        · have := i2 g' hg; omega
    have mo := mono l _ hl
    obtain ⟨ds, css, h1, h2, h3, h4, h5⟩ := fields_rep l (f.offset + P.cellsOf f.type) c (cs.drop (P.cellsOf f.type)) hl (by rw [List.length_drop, hc]; omega) mo.1 (fun i g hg => by
      obtain ⟨d, r, s, e⟩ := h (i + 1) g (by simpa using hg)
      have hgo := mo.2 g (List.mem_of_getElem? hg)
      rw [List.drop_drop]
      have e1 : P.cellsOf f.type + (g.offset - (f.offset + P.cellsOf f.type)) = g.offset - f.offset := by omega
      rw [e1]
      exact ⟨d, r, s, e⟩)
    refine ⟨d0 :: ds, cs.take (P.cellsOf f.type) :: css, by rw [List.flatten_cons, h1, List.take_append_drop], by simp [h2], by simp [h3], fun i d x hd hx => ?_, fun i g x hg hx => ?_⟩
    · cases i with
      | zero => simp at hd hx; subst hd hx; exact r0
      | succ i => exact h4 i d x (by simpa using hd) (by simpa using hx)
    · cases i with
      | zero => simp at hg hx; subst hg hx; exact s0
      | succ i => exact h5 i g x (by simpa using hg) (by simpa using hx)

theorem layF_in {P : Program} {c : Nat} : ∀ (l : List Field) (o : Nat), layF P l o c = true → o ≤ c ∧ ∀ f ∈ l, f.offset + P.cellsOf f.type ≤ c
  | [], o, h => by simp only [layF, beq_iff_eq] at h; exact ⟨by omega, fun f hf => by simp at hf⟩
  | g :: l, o, h => by
    simp only [layF, Bool.and_eq_true, beq_iff_eq] at h
    obtain ⟨i1, i2⟩ := layF_in l _ h.2
    refine ⟨by omega, fun f hf => ?_⟩
    rcases List.mem_cons.1 hf with rfl | hf
    · omega
    · exact i2 f hf
theorem trod_cells {P : Program} {l : List Field} {c i : Nat} {f : Field} {cs : List Value} (hl : layF P l 0 c = true) (hlen : cs.length = c) (hi : l[i]? = some f) : ((cs.drop f.offset).take (P.cellsOf f.type)).length = P.cellsOf f.type := by
  have := (layF_in l 0 hl).2 f (List.mem_of_getElem? hi)
  rw [List.length_take, List.length_drop]
  omega
/-- What is walked over can be read as data. -/
theorem rep_of_trod {N : NR} {F : Nat → Prop} {H : Type} {enc : TypeId × Value → H} {P : Program} {w : World} {base : Nat} {sp : Nat → Bool} {held : Bool} (hF : ∀ b, base ≤ b → b < w.heap.size → F b) :
    ∀ (n : Nat) {m : Nat} {t : TypeId} {cs : List Value} {x : DataW H × List MemPlace}, layT P n t = true → DataW.trod enc P w base sp held m t cs = some x → ∃ d, Rep N F w d cs ∧ shp P n t d
  | 0, m, t, cs, x, hl, h => by simp [layT] at hl
  | n + 1, m, t, cs, x, hl, h => by
    simp only [layT] at hl
    simp only [shp]
    split at hl
    · rename_i hu
      obtain ⟨b, rfl, _⟩ := DataW.trod_bool hu h
      exact ⟨_, .lit rfl, by exact ⟨b, rfl⟩⟩
    · rename_i k hu
      obtain ⟨b, rfl, _, hw⟩ := DataW.trod_int hu h
      exact ⟨_, .lit rfl, by exact ⟨b, rfl, hw⟩⟩
    · rename_i hu
      obtain ⟨b, rfl, _, hw⟩ := DataW.trod_string hu h
      exact ⟨_, .lit rfl, by exact ⟨b, rfl, hw⟩⟩
    · rename_i fs hu
      obtain ⟨xs, m', _, _, hlen, hxs, hf⟩ := DataW.trod_struct hu h
      rw [Bool.and_eq_true] at hl
      obtain ⟨ds, css, h1, h2, h3, h4, h5⟩ := fields_rep (N := N) (F := F) (w := w) (n := n) fs.toList 0 (P.cellsOf t) cs hl.1 (by omega) (by omega) (fun i f hfi => by
        have hi : fs[i]? = some f := by simpa using hfi
        have hlt : i < xs.length := by rw [hxs]; exact (Array.getElem?_eq_some_iff.1 hi).1
        have hx := hf i f hi
        rw [List.getElem?_eq_getElem hlt] at hx
        obtain ⟨d, r, s⟩ := rep_of_trod hF n (List.all_eq_true.1 hl.2 f (List.mem_of_getElem? hfi)) hx
        exact ⟨d, by simpa using r, s, by
          rw [Nat.sub_zero]
          exact trod_cells hl.1 hlen hfi⟩)
      subst h1
      exact ⟨.agg ds, .agg h2 h4, by exact ⟨ds, rfl, h3, h5⟩⟩
    · rename_i e hu
      rw [Bool.and_eq_true, Nat.blt_eq] at hl
      rcases DataW.trod_slice hu h with ⟨rfl, _⟩ | ⟨a, len, cap, elems, rest, m', _, rfl, _, hb, hlc, hcm, hel, hget, _, _⟩
      · exact ⟨.sl (P.cellsOf e) [], .sl none 0 (fun _ => []) (by simp) (by simp) (fun h => by simp at h) (fun i d h => by simp at h), by exact ⟨[], rfl, by simp, fun x hx => by simp at hx⟩⟩
      · have key : ∀ i, i < len → ∃ es, w.cells? base (a.add (i * P.cellsOf e)) (P.cellsOf e) = some es ∧ ∃ d, Rep N F w d es ∧ shp P n e d := by
          intro i hi
          have := hget i hi
          rw [List.getElem?_eq_getElem (by omega)] at this
          obtain ⟨es, h1, h2⟩ := Option.bind_eq_some_iff.1 this
          exact ⟨es, h1, rep_of_trod hF n hl.2 h2⟩
        obtain ⟨xs, hx1, hx2⟩ := list_of (p := fun i d => Rep N F w d ((w.cells? base (a.add (i * P.cellsOf e)) (P.cellsOf e)).getD []) ∧ shp P n e d) len (fun i hi => by
          obtain ⟨es, h1, d, h2, h3⟩ := key i hi
          exact ⟨d, by rw [h1]; exact h2, h3⟩)
        have hsl : Rep N F w (.sl (P.cellsOf e) xs) [.slice (some a) xs.length cap] := by
          refine .sl (some a) cap (fun i => (w.cells? base (a.add (i * P.cellsOf e)) (P.cellsOf e)).getD []) (by omega) hcm (fun hp => ?_) (fun i d hd => (hx2 i d hd).1)
          obtain ⟨es0, h0, _⟩ := key 0 (by omega)
          obtain ⟨_, l0, c0⟩ := World.cells?_some h0
          have c00 := c0 0 hl.1
          have ha0 : ∀ k, (a.add k).block = a.block := by intro k; unfold Addr.add; split <;> rfl
          have hv : ∃ v, w.cell? a = some v := by
            have : (a.add (0 * P.cellsOf e)).add 0 = a := by simp [Addr.add]
            rw [this] at c00
            rw [c00]
            exact ⟨_, List.getElem?_eq_getElem (by omega)⟩
          obtain ⟨v, hv⟩ := hv
          have hspot : a.spot = none ∧ a.block < w.heap.size := by
            unfold World.cell? at hv
            cases hh : w.heap[a.block]? with
            | none => rw [hh] at hv; simp at hv
            | some ob =>
              refine ⟨?_, (Array.getElem?_eq_some_iff.1 hh).1⟩
              rw [hh] at hv
              cases ob <;> simp at hv
              exact hv.1
          have hae : a = ⟨a.block, a.off, none⟩ := by rw [← hspot.1]
          refine ⟨a.block, a.off, by rw [← hae], hF _ hb hspot.2, fun i hi => ?_⟩
          obtain ⟨es, h1, _⟩ := key i (by omega)
          obtain ⟨_, l1, c1⟩ := World.cells?_some h1
          rw [h1, Option.getD_some]
          refine ⟨l1, fun j v hj => ?_⟩
          have hj' : j < P.cellsOf e := by have := (List.getElem?_eq_some_iff.1 hj).1; omega
          have := c1 j hj'
          rw [hj] at this
          rw [← this]
          congr 1
          rw [hae]
          unfold Addr.add
          by_cases z1 : i * P.cellsOf e = 0 <;> by_cases z2 : j = 0 <;> simp [z1, z2] <;> omega
        rw [hx1] at hsl
        exact ⟨.sl (P.cellsOf e) xs, hsl, by exact ⟨xs, rfl, by omega, fun x hx => by
          obtain ⟨i, hi⟩ := List.getElem?_of_mem hx
          exact (hx2 i x hi).2⟩⟩
    · simp at hl
end Go.Proofs.YtlniifhdimaliaaGreat.Ae

/-! A law's call with whatever is handed to it, from its contract; values handed to a law, read as data. No condition. -/
namespace Go.Proofs.YtlniifhdimaliaaGreat.Ae
open Go Go.RowKit Go.WideShapes

/-- A law's call, its arguments lying in memory. -/
theorem law_callsM {f : FuncId} {g : List D → Prop × List D} (h : SpecD NF Tryz.prog f g) {ds : List D} (hp : (g ds).1) (hr : (g ds).2 = [boolD true]) {vs : List Value} {w : World} (hrep : RepVs NF (fun b => b < w.heap.size) w ds vs) :
    Calls Tryz.prog f vs.toArray w fun e w' => e = .returned (.bool true) ∧ Below w.heap.size w w' := by
  refine (h ds hp (fun b => b < w.heap.size) w vs (fun k hk => hk) hrep).mono fun e w' ⟨v, he, hv, hfr⟩ => ?_
  rw [hr] at hv
  have hv : RepV NF _ w' (.lit (.bool true)) v := hv
  obtain ⟨rfl, _⟩ := RepV.lit hv
  exact ⟨he, ⟨hfr.os, hfr.tape, hfr.output, hfr.size, fun k hk => hfr.block k hk (fun h => h)⟩⟩
theorem repV_ok {F : Nat → Prop} {H : Type} {enc : TypeId × Value → H} {P : Program} {w : World} {base : Nat} {sp : Nat → Bool} {held : Bool} (hF : ∀ b, base ≤ b → b < w.heap.size → F b)
    {n : Nat} {t : TypeId} {v : Value} {r : Reach} {b0 : Nat} {x : DataW H × List MemPlace} (hl : layT P n t = true) (hv : Value.okWide P w r b0 t v) {m : Nat} (h : DataW.trod enc P w base sp held m t v.cells.toList = some x) :
    ∃ d, RepV NF F w d v ∧ shp P n t d := by
  obtain ⟨d, hr, hs⟩ := rep_of_trod (N := NF) (F := F) hF n hl h
  refine ⟨d, ?_, hs⟩
  cases n with
  | zero => simp [layT] at hl
  | succ n =>
    simp only [layT] at hl
    simp only [shp] at hs
    have one : d.isAgg = false → v.cells = #[v] → RepV NF F w d v := fun h1 h2 => ⟨[v], by rw [h2] at hr; exact hr, by unfold mkV; rw [h1]; rfl⟩
    split at hl
    · rename_i hu
      rw [hu] at hs
      obtain ⟨b, rfl⟩ := okWide_bool hu hv
      obtain ⟨c, rfl⟩ := hs
      exact one rfl rfl
    · rename_i k hu
      rw [hu] at hs
      obtain ⟨b, rfl⟩ := okWide_int hu hv
      obtain ⟨c, rfl, _⟩ := hs
      exact one rfl rfl
    · rename_i hu
      rw [hu] at hs
      obtain ⟨b, rfl⟩ := okWide_string hu hv
      obtain ⟨c, rfl, _⟩ := hs
      exact one rfl rfl
    · rename_i fs hu
      rw [hu] at hs
      obtain ⟨cs, rfl, _⟩ := okWide_struct hu hv
      obtain ⟨ds, rfl, _⟩ := hs
      exact ⟨cs.toList, by simpa [Value.cells] using hr, by unfold mkV; simp [D.isAgg]⟩
    · rename_i e hu
      rw [hu] at hs
      obtain ⟨a, len, cap, rfl⟩ := okWide_slice hu hv
      obtain ⟨ds, rfl, _⟩ := hs
      exact one rfl rfl
    · simp at hl
end Go.Proofs.YtlniifhdimaliaaGreat.Ae

/-! Lists of places, handed to a law. No condition. -/
namespace Go.Proofs.YtlniifhdimaliaaGreat.Ae
open Go Go.RowKit Go.Proofs.YtlniifhdimaliaaGreat.Dig

theorem shp_i64 {P : Program} {n : Nat} {t : TypeId} {d : D} (hu : P.underlying t = some (.int .i64)) (h : shp P (n + 1) t d) : ∃ x, d = .lit (.int .i64 x) ∧ I64 x := by
  simp only [shp, hu] at h
  obtain ⟨x, rfl, hw⟩ := h
  exact ⟨x, rfl, bounds_i64 hw⟩
theorem shp_two {P : Program} {n : Nat} {t : TypeId} {f g : Field} {d : D} (hu : P.underlying t = some (.struct #[f, g])) (h : shp P (n + 1) t d) : ∃ x y, d = .agg [x, y] ∧ shp P n f.type x ∧ shp P n g.type y := by
  simp only [shp, hu] at h
  obtain ⟨ds, rfl, hl, hf⟩ := h
  match ds, hl with
  | [x, y], _ => exact ⟨x, y, rfl, hf 0 f x rfl rfl, hf 1 g y rfl rfl⟩
theorem shp_sl {P : Program} {n : Nat} {t e : TypeId} {d : D} (hu : P.underlying t = some (.slice e)) (h : shp P (n + 1) t d) : ∃ xs, d = .sl (P.cellsOf e) xs ∧ xs.length ≤ maxLen ∧ ∀ x ∈ xs, shp P n e x := by
  simp only [shp, hu] at h
  exact h
theorem list_map {α : Type} {E : α → D} {p : α → Prop} : ∀ {xs : List D}, (∀ x ∈ xs, ∃ v, x = E v ∧ p v) → ∃ l : List α, xs = l.map E ∧ ∀ v ∈ l, p v
  | [], _ => ⟨[], rfl, fun v h => by simp at h⟩
  | x :: xs, h => by
    obtain ⟨v, e, hv⟩ := h x List.mem_cons_self
    obtain ⟨l, el, hl⟩ := list_map (xs := xs) (fun y hy => h y (List.mem_cons_of_mem _ hy))
    exact ⟨v :: l, by rw [e, el]; rfl, fun u hu => by
      rcases List.mem_cons.1 hu with rfl | hu
      · exact hv
      · exact hl u hu⟩
set_option maxRecDepth 100000 in
theorem shp_lQ {n : Nat} {d : D} (h : shp Tryz.prog (n + 2) 23 d) : ∃ p : Int × Int, d = eQ p.1 p.2 ∧ I64 p.1 ∧ I64 p.2 := by
  obtain ⟨x, y, rfl, hx, hy⟩ := shp_two (P := Tryz.prog) (n := n + 1) (t := 23) (d := d) Tryz.underlying23 h
  obtain ⟨a, rfl, ha⟩ := shp_i64 Tryz.underlying2 hx
  obtain ⟨b, rfl, hb⟩ := shp_i64 Tryz.underlying2 hy
  exact ⟨(a, b), rfl, ha, hb⟩
set_option maxRecDepth 100000 in
theorem shp_lV {n : Nat} {d : D} (h : shp Tryz.prog (n + 3) 25 d) : ∃ v, d = EV.e v ∧ V64 v := by
  obtain ⟨x, y, rfl, hx, hy⟩ := shp_two (P := Tryz.prog) (n := n + 2) (t := 25) (d := d) Tryz.underlying25 h
  obtain ⟨a, rfl, ha⟩ := shp_lQ hx
  obtain ⟨b, rfl, hb⟩ := shp_lQ hy
  exact ⟨(a, b), rfl, ha, hb⟩
/-- A list of places. -/
def EVL : Enc (List ((Int × Int) × Int × Int)) := EV.list 4
@[simp] theorem EVL_e (l : List ((Int × Int) × Int × Int)) : EVL.e l = .sl 4 (l.map EV.e) := rfl
set_option maxRecDepth 100000 in
theorem shp_lVS {n : Nat} {d : D} (h : shp Tryz.prog (n + 4) 46 d) : ∃ l, d = EVL.e l ∧ l.length ≤ maxLen ∧ ∀ v ∈ l, V64 v := by
  obtain ⟨xs, rfl, hl, hx⟩ := shp_sl (P := Tryz.prog) (n := n + 3) (t := 46) (d := d) Tryz.underlying46 h
  obtain ⟨l, rfl, hp⟩ := list_map (E := EV.e) (p := V64) (fun x hx' => shp_lV (hx x hx'))
  exact ⟨l, by simp, by simpa using hl, hp⟩
theorem ix_mem {A B : List D} {x : D} {k : Nat} (h : A.length = k) : ix (A ++ x :: B) k = some x := by
  unfold ix; rw [← h, List.getElem?_append_right (Nat.le_refl _), Nat.sub_self]; rfl
theorem lset_mem {A B : List D} {x y : D} {k : Nat} (h : A.length = k) : lset (A ++ x :: B) k y = A ++ y :: B := by
  unfold lset; rw [← h, List.set_append_right _ _ (Nat.le_refl _), Nat.sub_self]; rfl
end Go.Proofs.YtlniifhdimaliaaGreat.Ae

/-! Lists of places: allV, toVS, szVS, eqVS. No condition. -/
namespace Go.Proofs.YtlniifhdimaliaaGreat.Ae
open Go Go.RowKit Go.Proofs.YtlniifhdimaliaaGreat.Dig

/-! i.allV -/
noncomputable def allVC := ct1 EVL (fun l => l.length < 4611686018427387904 ∧ ∀ v ∈ l, V64 v) (fun l => [.lit (.bool (l.all fun v => decide (vOk v)))])
@[simp] theorem allVC_at (l : List ((Int × Int) × Int × Int)) : allVC [.sl 4 (l.map EV.e)] = ((l.length < 4611686018427387904 ∧ ∀ v ∈ l, V64 v), [.lit (.bool (l.all fun v => decide (vOk v)))]) := ct1_at (A := EVL) l
noncomputable def allVTb : List (FuncId × Ct) := [(48, .data iVOkC)]
theorem allVTb_ok {N : NR} : TbOK N Tryz.prog (tbl allVTb) := tbl_cons (c := .data iVOkC) iVOk_spec iVOk_ok tbl_nil

@[simp] theorem allVTb1 : tbl allVTb 48 = some (.data iVOkC) := rfl
def allVS (l : List ((Int × Int) × Int × Int)) (k : Nat) : St := ⟨[.any, .any, .any, .any, .any, .dat (.sl 4 (l.map EV.e)), .dat (.lit (.int .i64 l.length)), .dat (.lit (.int .i64 k)), .any, .any, .any, .any, .any, .any, .any], [none, none, none, none, none, none, none, none, none, none, none, none, none, none, none]⟩
theorem allV_spec {N : NR} : SpecD N Tryz.prog 72 allVC := by
  refine rd1 (mf := fun f => false) allVTb_ok (fn := Tryz.f72) (by kernel_rfl) rfl (by kernel_rfl) (by kernel_rfl) ?_
  rintro l ⟨hl, hb⟩
  generalize hr : (l.all fun v => decide (vOk v)) = r
  show awp _ _ _ _ (start _ ([.sl 4 (l.map EV.e)].map .dat) []) (endK _ _ _ ([D.lit (.bool r)].map .dat) [])
  simp only [Tryz.f72]
  simp
  refine loop_go (fun n st => ∃ k, n = l.length - k ∧ k ≤ l.length ∧ (∀ y ∈ l.take k, decide (vOk y) = true) ∧ st = allVS l k) (s0 := allVS l 0) (n := l.length) (snd_of (by simp [LeT, allVS]) (by simp [allVS])) ⟨0, rfl, Nat.zero_le _, by simp, rfl⟩ ?_
  rintro n st ⟨k, hn, hk, hall, rfl⟩ KN hN
  by_cases h : k < l.length
  · have hx := List.getElem?_eq_getElem h
    obtain ⟨⟨⟨a, b⟩, c, d⟩, hq⟩ : ∃ q, q = l[k] := ⟨_, rfl⟩
    rw [← hq] at hx
    have e1 : ix (l.map EV.e) k = some (.agg [eQ a b, eQ c d]) := by
      unfold ix
      rw [List.getElem?_map, hx]; rfl
    obtain ⟨⟨i1, i2⟩, i3, i4⟩ := hb ((a, b), c, d) (List.mem_of_getElem? hx)
    have i1 : I64 a := i1
    have i2 : I64 b := i2
    have i3 : I64 c := i3
    have i4 : I64 d := i4
    obtain ⟨a1, a2⟩ := all_drop (fun v => decide (vOk v)) l k ((a, b), c, d) hx hall
    have w1 : IntKind.i64.wrap ((k : Int) + 1) = (k : Int) + 1 := i64_id _ (by omega) (by omega)
    by_cases hok : qOk a b ∧ qOk c d
    · have a2 := a2 (decide_eq_true hok)
      simp [-D.isLit, allVS, h, e1, i1, i2, i3, i4, hok.1, hok.2, w1]
      exact hN _ (nx (m := l.length - (k + 1)) (s'' := allVS l (k + 1)) (snd_obs (n := 15) [] rfl (by simp) (by simp [allVS])) ⟨k + 1, rfl, h, a2, rfl⟩ (by omega))
    · have a1 := a1 (decide_eq_false hok)
      rw [hr] at a1
      subst a1
      have hok' : (decide (qOk a b) && decide (qOk c d)) = false := by rw [← Bool.decide_and]; exact decide_eq_false hok
      simp [-D.isLit, allVS, h, e1, i1, i2, i3, i4, hok', w1]
  · have hkl : k = l.length := by omega
    subst hkl
    rw [List.take_length] at hall
    have hrt : r = true := by rw [← hr, List.all_eq_true]; exact hall
    subst hrt
    simp [allVS]
theorem allV_ok : callable Tryz.prog 72 = true := by kernel_rfl

/-! l.toVS -/
noncomputable def toVSC := ct1 EVL (fun l => l.length < 16777216 / 4) (fun l => [.sl 4 (l.map EV.e)])
@[simp] theorem toVSC_at (l : List ((Int × Int) × Int × Int)) : toVSC [.sl 4 (l.map EV.e)] = (l.length < 16777216 / 4, [.sl 4 (l.map EV.e)]) := ct1_at (A := EVL) l
noncomputable def toVSTb : List (FuncId × Ct) := [(13, .data toVC)]
theorem toVSTb_ok {N : NR} : TbOK N Tryz.prog (tbl toVSTb) := tbl_cons (c := .data toVC) toV_spec toV_ok tbl_nil

@[simp] theorem toVSTb1 : tbl toVSTb 13 = some (.data toVC) := rfl
def zV : D := .agg [.agg [.lit (.int .i64 0), .lit (.int .i64 0)], .agg [.lit (.int .i64 0), .lit (.int .i64 0)]]
@[simp] theorem zV_size : zV.size = 4 := rfl
def toVSS (l p q : List ((Int × Int) × Int × Int)) : St := ⟨[.dat (.sl 4 (l.map EV.e)), .any, .any, .row 7, .dat (.lit (.int .i64 p.length)), .any, .any, .any, .any, .any, .any, .any, .any, .any, .any, .any, .any, .any, .any, .any, .any, .any, .any], [none, none, none, none, none, none, none, some (.row 4 31 (p.map EV.e ++ List.replicate q.length zV)), none, none, none, none, none, none, none, none, none, none, none, none, none, none, none]⟩
theorem toVS_spec {N : NR} : SpecD N Tryz.prog 28 toVSC := by
  refine rd1 (mf := fun f => false) toVSTb_ok (fn := Tryz.f28) (by kernel_rfl) rfl (by kernel_rfl) (by kernel_rfl) ?_
  rintro l hl
  have hl : l.length < 4194304 := hl
  show awp _ _ _ _ (start _ ([.sl 4 (l.map EV.e)].map .dat) []) (endK _ _ _ ([D.sl 4 (l.map EV.e)].map .dat) [])
  simp only [Tryz.f28]
  simp
  refine ⟨by omega, ?_⟩
  refine loop_go (fun n st => ∃ p q, l = p ++ q ∧ n = q.length ∧ st = toVSS l p q) (s0 := toVSS l [] l) (n := l.length) (snd_of (by simp [LeT, toVSS, zV]) (by simp [toVSS, zV])) ⟨[], l, rfl, rfl, rfl⟩ ?_
  rintro n st ⟨p, q, rfl, rfl, rfl⟩ KN hN
  cases q with
  | nil =>
    simp [toVSS]
  | cons v q =>
    obtain ⟨⟨a, b⟩, c, d⟩ := v
    have e1 : ix (p.map EV.e ++ .agg [eQ a b, eQ c d] :: q.map EV.e) p.length = some (.agg [eQ a b, eQ c d]) := ix_mem (by simp)
    have e2 : lset (p.map EV.e ++ List.replicate (q.length + 1) zV) p.length (.agg [eQ a b, eQ c d]) = p.map EV.e ++ .agg [eQ a b, eQ c d] :: List.replicate q.length zV := by
      rw [List.replicate_succ]; exact lset_mem (by simp)
    have e3 : ix (p.map EV.e ++ List.replicate (q.length + 1) zV) p.length = some zV := by
      rw [List.replicate_succ]; exact ix_mem (by simp)
    have w1 : IntKind.i64.wrap ((p.length : Int) + 1) = (p.length : Int) + 1 := i64_id _ (by omega) (by simp at hl; omega)
    have e4 : (p.length : Int) < p.length + (q.length + 1) := by omega
    simp [-D.isLit, toVSS, e1, e2, e3, e4, w1]
    refine hN _ (nx (m := q.length) (s'' := toVSS (p ++ ((a, b), c, d) :: q) (p ++ [((a, b), c, d)]) q) (snd_of (by simp [LeT, toVSS]) (by simp [toVSS])) ⟨p ++ [((a, b), c, d)], q, by simp, rfl, rfl⟩ (by simp))
theorem toVS_ok : callable Tryz.prog 28 = true := by kernel_rfl

/-! l.szVS -/
def ESz : Enc (List ((Int × Int) × Int × Int)) := EVL
noncomputable def szVSC := ct2 EVL EInt (fun l n => l.length ≤ 9223372036854775807 ∧ 0 ≤ n ∧ n < 4611686018427387904) (fun l n => [.lit (.int .i64 (if n < l.length then -1 else n - l.length))])
@[simp] theorem szVSC_at (l : List ((Int × Int) × Int × Int)) (n : Int) : szVSC [.sl 4 (l.map EV.e), .lit (.int .i64 n)] = ((l.length ≤ 9223372036854775807 ∧ 0 ≤ n ∧ n < 4611686018427387904), [.lit (.int .i64 (if n < l.length then -1 else n - l.length))]) := ct2_at (A := EVL) (B := EInt) l n
theorem szVS_spec {N : NR} : SpecD N Tryz.prog 26 szVSC := by
  refine rd2 (mf := fun f => false) (tb := tbl []) tbl_nil (fn := Tryz.f26) (by kernel_rfl) rfl (by kernel_rfl) (by kernel_rfl) ?_
  rintro l n ⟨hl, h0, hn⟩
  show awp _ _ _ _ (start _ ([.sl 4 (l.map EV.e), .lit (.int .i64 n)].map .dat) []) (endK _ _ _ ([D.lit (.int .i64 (if n < l.length then -1 else n - l.length))].map .dat) [])
  have w1 : IntKind.i64.wrap (n - l.length) = n - l.length := i64_id _ (by omega) (by omega)
  by_cases h : n < l.length
  · have h' : n - l.length < 0 := by omega
    simp [Tryz.f26, w1, h, h']
  · have h' : ¬ n - l.length < 0 := by omega
    simp [Tryz.f26, w1, h, h']
theorem szVS_ok : callable Tryz.prog 26 = true := by kernel_rfl

/-! l.eqVS -/
noncomputable def eqVSC := ct2 EVL EVL (fun l m => l.length < 4611686018427387904 ∧ l = m) (fun l m => [.lit (.bool true)])
@[simp] theorem eqVSC_at (l m : List ((Int × Int) × Int × Int)) : eqVSC [.sl 4 (l.map EV.e), .sl 4 (m.map EV.e)] = ((l.length < 4611686018427387904 ∧ l = m), [.lit (.bool true)]) := ct2_at (A := EVL) (B := EVL) l m
noncomputable def eqVSTb : List (FuncId × Ct) := [(18, .data eqVC)]
theorem eqVSTb_ok {N : NR} : TbOK N Tryz.prog (tbl eqVSTb) := tbl_cons (c := .data eqVC) eqV_spec eqV_ok tbl_nil

@[simp] theorem eqVSTb1 : tbl eqVSTb 18 = some (.data eqVC) := rfl
def eqVSS (l : List ((Int × Int) × Int × Int)) (k : Nat) : St := ⟨[.dat (.sl 4 (l.map EV.e)), .dat (.sl 4 (l.map EV.e)), .any, .any, .any, .dat (.lit (.int .i64 k)), .any, .any, .any, .any, .any, .any, .any, .any, .any, .any, .any, .any, .any, .any, .any, .any, .any, .any, .any, .any, .any], [none, none, none, none, none, none, none, none, none, none, none, none, none, none, none, none, none, none, none, none, none, none, none, none, none, none, none]⟩
theorem eqVS_spec {N : NR} : SpecD N Tryz.prog 30 eqVSC := by
  refine rd2 (mf := fun f => false) eqVSTb_ok (fn := Tryz.f30) (by kernel_rfl) rfl (by kernel_rfl) (by kernel_rfl) ?_
  rintro l m ⟨hl, hm⟩
  have hm : l = m := hm
  subst hm
  show awp _ _ _ _ (start _ ([.sl 4 (l.map EV.e), .sl 4 (l.map EV.e)].map .dat) []) (endK _ _ _ ([D.lit (.bool true)].map .dat) [])
  simp only [Tryz.f30]
  simp
  refine loop_go (fun n st => ∃ k, n = l.length - k ∧ k ≤ l.length ∧ st = eqVSS l k) (s0 := eqVSS l 0) (n := l.length) (snd_of (by simp [LeT, eqVSS]) (by simp [eqVSS])) ⟨0, rfl, Nat.zero_le _, rfl⟩ ?_
  rintro n st ⟨k, hn, hk, rfl⟩ KN hN
  by_cases h : k < l.length
  · have hx := List.getElem?_eq_getElem h
    obtain ⟨⟨⟨a, b⟩, c, d⟩, hq⟩ : ∃ q, q = l[k] := ⟨_, rfl⟩
    rw [← hq] at hx
    have e1 : ix (l.map EV.e) k = some (.agg [eQ a b, eQ c d]) := by
      unfold ix
      rw [List.getElem?_map, hx]; rfl
    have w1 : IntKind.i64.wrap ((k : Int) + 1) = (k : Int) + 1 := i64_id _ (by omega) (by omega)
    simp [-D.isLit, eqVSS, h, e1, w1]
    exact hN _ (nx (m := l.length - (k + 1)) (s'' := eqVSS l (k + 1)) (snd_of (by simp [LeT, eqVSS]) (by simp [eqVSS])) ⟨k + 1, rfl, h, rfl⟩ (by omega))
  · have hkl : k = l.length := by omega
    subst hkl
    simp [eqVSS]
theorem eqVS_ok : callable Tryz.prog 30 = true := by kernel_rfl
end Go.Proofs.YtlniifhdimaliaaGreat.Ae

/-! Nearest: the program. No condition. -/
namespace Go.Proofs.YtlniifhdimaliaaGreat.Ae
open Go Go.RowKit Go.Proofs.YtlniifhdimaliaaGreat.Dig

def gQ (l : List ((Int × Int) × Int × Int)) (v : (Int × Int) × Int × Int) (i : Nat) : Rat := match l[i]? with
  | some u => dist2Q (Rat.divInt u.1.1 u.1.2) (Rat.divInt u.2.1 u.2.2) (Rat.divInt v.1.1 v.1.2) (Rat.divInt v.2.1 v.2.2)
  | none => 0
/-- The first of the least. -/
def bst (g : Nat → Rat) : Nat → Nat
  | 0 => 0
  | k + 1 => if qcmp (g k) (g (bst g k)) < 0 then k else bst g k
theorem bst_le (g : Nat → Rat) : ∀ k, bst g k ≤ k - 1
  | 0 => Nat.le_refl _
  | k + 1 => by
    unfold bst
    have := bst_le g k
    split <;> omega
def nearOk (l : List ((Int × Int) × Int × Int)) (v : (Int × Int) × Int × Int) : Prop := l.length ≠ 0 ∧ l.length ≤ 30 ∧ (l.all fun u => decide (vOk u)) = true ∧ vOk v
instance (l : List ((Int × Int) × Int × Int)) (v : (Int × Int) × Int × Int) : Decidable (nearOk l v) := by unfold nearOk; infer_instance
def nearI (l : List ((Int × Int) × Int × Int)) (v : (Int × Int) × Int × Int) : Int := if nearOk l v then (bst (gQ l v) l.length : Nat) else -1
noncomputable def iNrC := ct2 EVL EV (fun l v => (l.length < 4611686018427387904 ∧ ∀ u ∈ l, V64 u) ∧ V64 v) (fun l v => [.lit (.int .i64 (nearI l v))])
@[simp] theorem iNrC_at (l : List ((Int × Int) × Int × Int)) (a b c d : Int) : iNrC [.sl 4 (l.map EV.e), .agg [eQ a b, eQ c d]] = (((l.length < 4611686018427387904 ∧ ∀ u ∈ l, V64 u) ∧ V64 ((a, b), c, d)), [.lit (.int .i64 (nearI l ((a, b), c, d)))]) := ct2_at (A := EVL) (B := EV) l ((a, b), c, d)
noncomputable def iNrTb : List (FuncId × Ct) := [(72, .data allVC), (48, .data iVOkC), (52, .data pvC), (66, .data dst2C), (73, .data rcC)]
theorem iNrTb_ok {N : NR} : TbOK N Tryz.prog (tbl iNrTb) := tbl_cons (c := .data allVC) allV_spec allV_ok (tbl_cons (c := .data iVOkC) iVOk_spec iVOk_ok (tbl_cons (c := .data pvC) pv_spec pv_ok (tbl_cons (c := .data dst2C) dst2_spec dst2_ok (tbl_cons (c := .data rcC) rcmp_spec rcmp_ok tbl_nil))))

@[simp] theorem iNrTb1 : tbl iNrTb 72 = some (.data allVC) := rfl
@[simp] theorem iNrTb2 : tbl iNrTb 48 = some (.data iVOkC) := rfl
@[simp] theorem iNrTb3 : tbl iNrTb 52 = some (.data pvC) := rfl
@[simp] theorem iNrTb4 : tbl iNrTb 66 = some (.data dst2C) := rfl
@[simp] theorem iNrTb5 : tbl iNrTb 73 = some (.data rcC) := rfl
def iNrS (l : List ((Int × Int) × Int × Int)) (v : D) (b k : Nat) : St := ⟨[.dat (.sl 4 (l.map EV.e)), .any, .any, .obj 3 [] 0, .any, .dat (.lit (.int .i64 b)), .any, .any, .any, .any, .any, .any, .any, .any, .any, .any, .any, .any, .any, .any, .any, .any, .any, .any, .any, .any, .dat (.lit (.int .i64 l.length)), .dat (.lit (.int .i64 k)), .any, .any, .any, .any, .any, .any, .any, .any, .any, .any, .any, .any, .any, .any, .any, .any, .any, .any, .any, .any, .any, .any, .any], [none, none, none, some (.box v), none, none, none, none, none, none, none, none, none, none, none, none, none, none, none, none, none, none, none, none, none, none, none, none, none, none, none, none, none, none, none, none, none, none, none, none, none, none, none, none, none, none, none, none, none, none, none]⟩
theorem dist2Q_sz (a b c d : Rat) : qsz (dist2Q a b c d) ≤ 2 * (qsz a + qsz b + qsz c + qsz d) + 10 := by
  unfold dist2Q
  have h1 := dotQ_sz (a - c) (b - d) (a - c) (b - d)
  have h2 := qsz_sub a c
  have h3 := qsz_sub b d
  omega
theorem iNr_spec {N : NR} : SpecD N Tryz.prog 29 iNrC := by
  refine rd2 (mf := fun f => false) iNrTb_ok (fn := Tryz.f29) (by kernel_rfl) rfl (by kernel_rfl) (by kernel_rfl) ?_
  rintro l ⟨⟨a, b⟩, c, d⟩ ⟨⟨hl, hb⟩, ⟨i1, i2⟩, i3, i4⟩
  have i1 : I64 a := i1
  have i2 : I64 b := i2
  have i3 : I64 c := i3
  have i4 : I64 d := i4
  generalize hr : nearI l ((a, b), c, d) = r
  show awp _ _ _ _ (start _ ([.sl 4 (l.map EV.e), .agg [eQ a b, eQ c d]].map .dat) []) (endK _ _ _ ([D.lit (.int .i64 r)].map .dat) [])
  simp only [Tryz.f29]
  by_cases h1 : l.length = 0
  · have e : r = -1 := by rw [← hr]; unfold nearI; rw [if_neg (fun x => x.1 h1)]
    subst e
    have hl0 : l = [] := List.eq_nil_of_length_eq_zero h1
    subst hl0
    simp [-D.isLit]
  by_cases h2 : 30 < l.length
  · have e : r = -1 := by rw [← hr]; unfold nearI; rw [if_neg (fun x => by have := x.2.1; omega)]
    subst e
    have h2' : ¬ (l.length : Int) ≤ 30 := by omega
    simp [-D.isLit, h1, h2, h2']
  have h2' : (l.length : Int) ≤ 30 := by omega
  have hpre : l.length < 4611686018427387904 ∧ ∀ u ∈ l, V64 u := ⟨hl, hb⟩
  cases h3 : (l.all fun u => decide (vOk u))
  · have e : r = -1 := by rw [← hr]; unfold nearI; rw [if_neg (fun x => by have := x.2.2.1; rw [h3] at this; cases this)]
    subst e
    have c1 := allVC_at l
    rw [h3] at c1
    simp [-D.isLit, -allVC_at, h1, h2', c1, hl]
    exact fun a b c d h => hb _ h
  have c1 := allVC_at l
  rw [h3] at c1
  have c2 : ((l.length < 4611686018427387904 ∧ ∀ v ∈ l, V64 v)) = True := eq_true hpre
  rw [c2] at c1
  by_cases h4 : qOk a b ∧ qOk c d
  case neg =>
    have e : r = -1 := by rw [← hr]; unfold nearI; rw [if_neg (fun x => h4 x.2.2.2)]
    subst e
    have h4' : (decide (qOk a b) && decide (qOk c d)) = false := by rw [← Bool.decide_and]; exact decide_eq_false h4
    simp [-D.isLit, -allVC_at, h1, h2', c1, i1, i2, i3, i4, h4']
  have e : r = (bst (gQ l ((a, b), c, d)) l.length : Nat) := by rw [← hr]; unfold nearI; rw [if_pos ⟨h1, by omega, h3, h4⟩]
  subst e
  have h2'' : ¬ (30 : Int) < l.length := by omega
  simp [-D.isLit, -allVC_at, h1, h2', h2'', c1, i1, i2, i3, i4, h4.1, h4.2]
  generalize hG : gQ l ((a, b), c, d) = G
  refine loop_go (fun n st => ∃ k, n = l.length - k ∧ k ≤ l.length ∧ st = iNrS l (.agg [eQ a b, eQ c d]) (bst G k) k) (s0 := iNrS l (.agg [eQ a b, eQ c d]) 0 0) (n := l.length) (snd_of (by simp [LeT, iNrS]) (by simp [iNrS])) ⟨0, rfl, Nat.zero_le _, rfl⟩ ?_
  rintro n st ⟨k, hn, hk, rfl⟩ KN hN
  by_cases h : k < l.length
  · have hbl := bst_le G k
    have h' : bst G k < l.length := by omega
    have hgd : ∀ x ∈ l, vOk x := fun x hx => of_decide_eq_true (List.all_eq_true.1 h3 x hx)
    have hx := List.getElem?_eq_getElem h
    have hy := List.getElem?_eq_getElem h'
    obtain ⟨⟨⟨u1, u2⟩, u3, u4⟩, hu⟩ : ∃ q, q = l[k] := ⟨_, rfl⟩
    obtain ⟨⟨⟨x1, x2⟩, x3, x4⟩, hw⟩ : ∃ q, q = l[bst G k] := ⟨_, rfl⟩
    rw [← hu] at hx
    rw [← hw] at hy
    have e1 : ix (l.map EV.e) k = some (.agg [eQ u1 u2, eQ u3 u4]) := by unfold ix; rw [List.getElem?_map, hx]; rfl
    have e2 : ix (l.map EV.e) (bst G k) = some (.agg [eQ x1 x2, eQ x3 x4]) := by unfold ix; rw [List.getElem?_map, hy]; rfl
    have g1 : G k = dist2Q (Rat.divInt u1 u2) (Rat.divInt u3 u4) (Rat.divInt a b) (Rat.divInt c d) := by rw [← hG]; unfold gQ; rw [hx]
    have g2 : G (bst G k) = dist2Q (Rat.divInt x1 x2) (Rat.divInt x3 x4) (Rat.divInt a b) (Rat.divInt c d) := by
      have : ∀ j, l[j]? = some ((x1, x2), x3, x4) → G j = dist2Q (Rat.divInt x1 x2) (Rat.divInt x3 x4) (Rat.divInt a b) (Rat.divInt c d) := fun j hj => by rw [← hG]; unfold gQ; rw [hj]
      exact this _ hy
    have ou : qOk u1 u2 ∧ qOk u3 u4 := hgd _ (List.mem_of_getElem? hx)
    have ow : qOk x1 x2 ∧ qOk x3 x4 := hgd _ (List.mem_of_getElem? hy)
    have q1 := qOk_QI ou.1
    have q2 := qOk_QI ou.2
    have q3 := qOk_QI ow.1
    have q4 := qOk_QI ow.2
    have q5 := qOk_QI h4.1
    have q6 := qOk_QI h4.2
    have z1 := QI_qsz q1
    have z2 := QI_qsz q2
    have z3 := QI_qsz q3
    have z4 := QI_qsz q4
    have z5 := QI_qsz q5
    have z6 := QI_qsz q6
    have s1 : qsz (Rat.divInt u1 u2) + qsz (Rat.divInt u3 u4) + qsz (Rat.divInt a b) + qsz (Rat.divInt c d) < 100000000 := by omega
    have s2 : qsz (Rat.divInt x1 x2) + qsz (Rat.divInt x3 x4) + qsz (Rat.divInt a b) + qsz (Rat.divInt c d) < 100000000 := by omega
    have d1 := dist2Q_sz (Rat.divInt u1 u2) (Rat.divInt u3 u4) (Rat.divInt a b) (Rat.divInt c d)
    have d2 := dist2Q_sz (Rat.divInt x1 x2) (Rat.divInt x3 x4) (Rat.divInt a b) (Rat.divInt c d)
    have s3 : qsz (dist2Q (Rat.divInt u1 u2) (Rat.divInt u3 u4) (Rat.divInt a b) (Rat.divInt c d)) + qsz (dist2Q (Rat.divInt x1 x2) (Rat.divInt x3 x4) (Rat.divInt a b) (Rat.divInt c d)) < MX := by rw [MX_val]; omega
    have w1 : IntKind.i64.wrap ((k : Int) + 1) = (k : Int) + 1 := i64_id _ (by omega) (by omega)
    have eb : bst G (k + 1) = if qcmp (dist2Q (Rat.divInt u1 u2) (Rat.divInt u3 u4) (Rat.divInt a b) (Rat.divInt c d)) (dist2Q (Rat.divInt x1 x2) (Rat.divInt x3 x4) (Rat.divInt a b) (Rat.divInt c d)) < 0 then k else bst G k := by
      rw [← g1, ← g2]; rfl
    have hI : ∀ m : Nat, (m : Int) < l.length ↔ m < l.length := fun m => by omega
    by_cases hc : qcmp (dist2Q (Rat.divInt u1 u2) (Rat.divInt u3 u4) (Rat.divInt a b) (Rat.divInt c d)) (dist2Q (Rat.divInt x1 x2) (Rat.divInt x3 x4) (Rat.divInt a b) (Rat.divInt c d)) < 0
    · rw [if_pos hc] at eb
      simp [-D.isLit, iNrS, h, h', e1, e2, q1, q2, q3, q4, q5, q6, s1, s2, s3, hc, w1]
      exact hN _ (nx (m := l.length - (k + 1)) (s'' := iNrS l (.agg [eQ a b, eQ c d]) (bst G (k + 1)) (k + 1)) (snd_of (by simp [LeT, iNrS, eb]) (by simp [iNrS])) ⟨k + 1, rfl, h, rfl⟩ (by omega))
    · rw [if_neg hc] at eb
      simp [-D.isLit, iNrS, h, h', e1, e2, q1, q2, q3, q4, q5, q6, s1, s2, s3, hc, w1]
      exact hN _ (nx (m := l.length - (k + 1)) (s'' := iNrS l (.agg [eQ a b, eQ c d]) (bst G (k + 1)) (k + 1)) (snd_of (by simp [LeT, iNrS, eb]) (by simp [iNrS])) ⟨k + 1, rfl, h, rfl⟩ (by omega))
  · have hkl : k = l.length := by omega
    subst hkl
    simp [iNrS]
theorem iNr_ok : callable Tryz.prog 29 = true := by kernel_rfl
end Go.Proofs.YtlniifhdimaliaaGreat.Ae

/-! Nearest: the reference, the law. No condition. -/
namespace Go.Proofs.YtlniifhdimaliaaGreat.Ae
open Go Go.RowKit Go.Proofs.YtlniifhdimaliaaGreat.Dig

def vN (u : (Int × Int) × Int × Int) : D := .agg [nD (Rat.divInt u.1.1 u.1.2), nD (Rat.divInt u.2.1 u.2.2)]
def okV (u : (Int × Int) × Int × Int) : Bool := decide (vOk u)
def l7R (l : List ((Int × Int) × Int × Int)) : List ((Int × Int) × Int × Int) × Bool := if 30 < l.length then ([], false) else (l.takeWhile okV, l.all okV)
noncomputable def l7C := ct1 EVL (fun l => l.length < 4611686018427387904 ∧ ∀ v ∈ l, V64 v) (fun l => [.sl 6 ((l7R l).1.map vN), .lit (.bool (l7R l).2)])
@[simp] theorem l7C_at (l : List ((Int × Int) × Int × Int)) : l7C [.sl 4 (l.map EV.e)] = ((l.length < 4611686018427387904 ∧ ∀ v ∈ l, V64 v), [.sl 6 ((l7R l).1.map vN), .lit (.bool (l7R l).2)]) := ct1_at (A := EVL) l
noncomputable def l7Tb : List (FuncId × Ct) := [(43, .data sVOkC), (46, .data l3pC)]
theorem l7Tb_ok : TbOK NF Tryz.prog (tbl l7Tb) := tbl_cons (c := .data sVOkC) sVOk_spec sVOk_ok (tbl_cons (c := .data l3pC) l3p_spec l3p_ok tbl_nil)

@[simp] theorem l7Tb1 : tbl l7Tb 43 = some (.data sVOkC) := rfl
@[simp] theorem l7Tb2 : tbl l7Tb 46 = some (.data l3pC) := rfl
def l7S (l p : List ((Int × Int) × Int × Int)) : St := ⟨[.dat (.sl 4 (l.map EV.e)), .any, .any, .any, .row 6, .dat (.lit (.int .i64 p.length)), .any, .any, .any, .any, .any, .any, .any, .any, .any, .any, .any, .any, .any, .any, .any, .any, .any, .any, .any, .any, .any, .any, .any, .any, .any, .any, .any], [none, none, none, none, none, none, some (.row 6 83 (p.map vN)), none, none, none, none, none, none, none, none, none, none, none, none, none, none, none, none, none, none, none, none, none, none, none, none, none, none]⟩
theorem l7_spec : SpecD NF Tryz.prog 70 l7C := by
  refine rd1 (mf := fun f => false) l7Tb_ok (fn := Tryz.f70) (by kernel_rfl) rfl (by kernel_rfl) (by kernel_rfl) ?_
  rintro l ⟨hl, hb⟩
  generalize hr : l7R l = r
  show awp _ _ _ _ (start _ ([.sl 4 (l.map EV.e)].map .dat) []) (endK _ _ _ ([.sl 6 (r.1.map vN), D.lit (.bool r.2)].map .dat) [])
  simp only [Tryz.f70]
  by_cases h30 : 30 < l.length
  · have e : r = ([], false) := by rw [← hr]; unfold l7R; rw [if_pos h30]
    subst e
    have h30' : (30 : Int) < l.length := by omega
    simp [-D.isLit, h30, h30']
  have h30' : ¬ (30 : Int) < l.length := by omega
  have h30'' : (l.length : Int) ≤ 30 := by omega
  have e : r = (l.takeWhile okV, l.all okV) := by rw [← hr]; unfold l7R; rw [if_neg h30]
  simp [-D.isLit, h30, h30', h30'']
  refine loop_go (fun n st => ∃ p q, l = p ++ q ∧ n = q.length ∧ (∀ y ∈ p, okV y = true) ∧ st = l7S l p) (s0 := l7S l []) (n := l.length) (snd_of (by simp [LeT, l7S]) (by simp [l7S])) ⟨[], l, rfl, rfl, by simp, rfl⟩ ?_
  rintro n st ⟨p, q, rfl, rfl, hp, rfl⟩ KN hN
  cases q with
  | nil =>
    have e' : r = (p, true) := by
      rw [e, List.append_nil]
      refine Prod.ext ?_ (List.all_eq_true.2 hp)
      have := List.takeWhile_append_of_pos (l₁ := p) (l₂ := []) hp
      rw [List.append_nil] at this
      simpa using this
    subst e'
    simp [-D.isLit, l7S]
  | cons v q =>
    obtain ⟨⟨a, b⟩, c, d⟩ := v
    obtain ⟨⟨i1, i2⟩, i3, i4⟩ := hb ((a, b), c, d) (by simp)
    have i1 : I64 a := i1
    have i2 : I64 b := i2
    have i3 : I64 c := i3
    have i4 : I64 d := i4
    have e1 : ix (p.map EV.e ++ .agg [eQ a b, eQ c d] :: q.map EV.e) p.length = some (.agg [eQ a b, eQ c d]) := ix_mem (by simp)
    have w1 : IntKind.i64.wrap ((p.length : Int) + 1) = (p.length : Int) + 1 := i64_id _ (by omega) (by simp at hl; omega)
    have e4 : (p.length : Int) < p.length + (q.length + 1) := by omega
    by_cases hok : qOk a b ∧ qOk c d
    · have y1 := (qOk_64 hok.1).2.2
      have y2 := (qOk_64 hok.2).2.2
      simp [-D.isLit, l7S, e1, e4, w1, i1, i2, i3, i4, hok.1, hok.2, y1, y2]
      have hp30 : p.length ≤ 30 := by simp at h30; omega
      have hp31 : (p.length + 1) * 80 ≤ 140737488355328 := by omega
      have hp32 : p.length + 1 ≤ maxLen := by unfold maxLen; omega
      refine ⟨⟨hp31, hp32⟩, hN _ (nx (m := q.length) (s'' := l7S (p ++ ((a, b), c, d) :: q) (p ++ [((a, b), c, d)])) (snd_obs (n := 33) [(6, 31, .row 6 83 ((p ++ [((a, b), c, d)]).map vN))] rfl (by simp [vN]) (by simp [l7S])) ⟨p ++ [((a, b), c, d)], q, by simp, rfl, fun y hy => ?_, rfl⟩ (by simp))⟩
      rcases List.mem_append.1 hy with hy | hy
      · exact hp y hy
      · rw [List.mem_singleton.1 hy]; exact decide_eq_true hok
    · have e' : r = (p, false) := by
        have hv : okV ((a, b), c, d) = false := decide_eq_false hok
        rw [e]
        refine Prod.ext ?_ ?_
        · show List.takeWhile okV (p ++ _ :: q) = p
          rw [List.takeWhile_append_of_pos hp, List.takeWhile_cons, if_neg (by rw [hv]; simp), List.append_nil]
        · show List.all (p ++ _ :: q) okV = false
          rw [List.all_append, List.all_cons, hv, Bool.false_and, Bool.and_false]
      subst e'
      have hok' : (decide (qOk a b) && decide (qOk c d)) = false := by rw [← Bool.decide_and]; exact decide_eq_false hok
      simp [-D.isLit, l7S, e1, e4, w1, i1, i2, i3, i4, hok']
end Go.Proofs.YtlniifhdimaliaaGreat.Ae

/-! Nearest: the reference and the law. No condition. -/
namespace Go.Proofs.YtlniifhdimaliaaGreat.Ae
open Go Go.RowKit Go.Proofs.YtlniifhdimaliaaGreat.Dig

theorem l7_ok : callable Tryz.prog 70 = true := by kernel_rfl
noncomputable def sNrTb : List (FuncId × Ct) := [(70, .data l7C), (43, .data sVOkC), (46, .data l3pC), (63, .data l3SubC), (65, .data l3DotC), (71, .data nCmpC)]
theorem sNrTb_ok : TbOK NF Tryz.prog (tbl sNrTb) := tbl_cons (c := .data l7C) l7_spec l7_ok (tbl_cons (c := .data sVOkC) sVOk_spec sVOk_ok (tbl_cons (c := .data l3pC) l3p_spec l3p_ok (tbl_cons (c := .data l3SubC) l3Sub_spec l3Sub_ok (tbl_cons (c := .data l3DotC) l3Dot_spec l3Dot_ok (tbl_cons (c := .data nCmpC) nCmp_spec l1rCmp_ok tbl_nil)))))

@[simp] theorem sNrTb1 : tbl sNrTb 70 = some (.data l7C) := rfl
@[simp] theorem sNrTb2 : tbl sNrTb 43 = some (.data sVOkC) := rfl
@[simp] theorem sNrTb3 : tbl sNrTb 46 = some (.data l3pC) := rfl
@[simp] theorem sNrTb4 : tbl sNrTb 63 = some (.data l3SubC) := rfl
@[simp] theorem sNrTb5 : tbl sNrTb 65 = some (.data l3DotC) := rfl
@[simp] theorem sNrTb6 : tbl sNrTb 71 = some (.data nCmpC) := rfl
def sNrS (l : List ((Int × Int) × Int × Int)) (v : D) (b : Int) (g : D) (k : Nat) : St := ⟨[.any, .any, .any, .obj 3 [] 0, .any, .dat (.sl 6 (l.map vN)), .any, .dat (.lit (.int .i64 b)), .obj 8 [] 0, .dat (.lit (.int .i64 k)), .any, .any, .any, .any, .any, .any, .any, .any, .any, .any, .any, .any, .any, .any, .any, .any, .any, .any, .any, .any, .any, .any, .any, .any, .any, .any, .any, .any, .any, .any, .any, .any, .any, .any, .any, .any, .any, .any, .any, .any, .any, .any], [none, none, none, some (.box v), none, none, none, none, some (.box g), none, none, none, none, none, none, none, none, none, none, none, none, none, none, none, none, none, none, none, none, none, none, none, none, none, none, none, none, none, none, none, none, none, none, none, none, none, none, none, none, none, none, none]⟩
def zR : D := .agg [.lit (.int .i64 0), .lit (.int .i64 0), .lit (.slice none 0 0)]
@[simp] theorem zR_size : zR.size = 3 := rfl
def sNrB (G : Nat → Rat) (k : Nat) : Int := if k = 0 then -1 else (bst G k : Nat)
def sNrG (G : Nat → Rat) (k : Nat) : D := if k = 0 then zR else nD (G (bst G k))
@[simp] theorem sNrG_size (G : Nat → Rat) (k : Nat) : (sNrG G k).size = 3 := by unfold sNrG; split <;> rfl
theorem sNr_spec : SpecD NF Tryz.prog 27 iNrC := by
  refine rd2 (mf := fun f => false) sNrTb_ok (fn := Tryz.f27) (by kernel_rfl) rfl (by kernel_rfl) (by kernel_rfl) ?_
  rintro l ⟨⟨a, b⟩, c, d⟩ ⟨⟨hl, hb⟩, ⟨i1, i2⟩, i3, i4⟩
  have i1 : I64 a := i1
  have i2 : I64 b := i2
  have i3 : I64 c := i3
  have i4 : I64 d := i4
  generalize hr : nearI l ((a, b), c, d) = r
  show awp _ _ _ _ (start _ ([.sl 4 (l.map EV.e), .agg [eQ a b, eQ c d]].map .dat) []) (endK _ _ _ ([D.lit (.int .i64 r)].map .dat) [])
  simp only [Tryz.f27]
  have c1 := l7C_at l
  rw [(eq_true ⟨hl, hb⟩ : (l.length < 4611686018427387904 ∧ ∀ v ∈ l, V64 v) = True)] at c1
  by_cases h2 : (l7R l).2 = false
  · have e : r = -1 := by
      rw [← hr]; unfold nearI
      rw [if_neg (fun x => by
        unfold l7R at h2
        rw [if_neg (by have := x.2.1; omega)] at h2
        have := x.2.2.1
        have h2 : (l.all fun u => decide (vOk u)) = false := h2
        rw [this] at h2; cases h2)]
    subst e
    rw [h2] at c1
    simp [-D.isLit, -l7C_at, c1]
  have h2t : (l7R l).2 = true := by cases hh : (l7R l).2 <;> simp_all
  have h30 : ¬ 30 < l.length := fun h => by unfold l7R at h2t; rw [if_pos h] at h2t; cases h2t
  have hall : (l.all fun u => decide (vOk u)) = true := by unfold l7R at h2t; rw [if_neg h30] at h2t; exact h2t
  have hgd : ∀ x ∈ l, vOk x := fun x hx => of_decide_eq_true (List.all_eq_true.1 hall x hx)
  have h7 : (l7R l).1 = l := by
    unfold l7R; rw [if_neg h30]
    have := List.takeWhile_append_of_pos (p := okV) (l₁ := l) (l₂ := []) (fun y hy => decide_eq_true (hgd y hy))
    rw [List.append_nil] at this
    simpa using this
  rw [h2t, h7] at c1
  by_cases h4 : qOk a b ∧ qOk c d
  case neg =>
    have e : r = -1 := by rw [← hr]; unfold nearI; rw [if_neg (fun x => h4 x.2.2.2)]
    subst e
    have h4' : (decide (qOk a b) && decide (qOk c d)) = false := by rw [← Bool.decide_and]; exact decide_eq_false h4
    simp [-D.isLit, -l7C_at, c1, i1, i2, i3, i4, h4']
  have hl30 : l.length ≤ 30 := by omega
  generalize hG : gQ l ((a, b), c, d) = G at *
  have e : r = if l.length = 0 then (-1 : Int) else ((bst G l.length : Nat) : Int) := by
    rw [← hr]; unfold nearI
    by_cases h0 : l.length = 0
    · rw [if_neg (fun x => x.1 h0), if_pos h0]
    · rw [if_pos ⟨h0, hl30, hall, h4⟩, if_neg h0, hG]
  subst e
  have y1 := (qOk_64 h4.1).2.2
  have y2 := (qOk_64 h4.2).2.2
  simp [-D.isLit, -l7C_at, c1, i1, i2, i3, i4, h4.1, h4.2]
  refine loop_go (fun n st => ∃ k, n = l.length - k ∧ k ≤ l.length ∧ st = sNrS l (.agg [eQ a b, eQ c d]) (sNrB G k) (sNrG G k) k) (s0 := sNrS l (.agg [eQ a b, eQ c d]) (-1) zR 0) (n := l.length) (snd_of (by simp [LeT, sNrS]) (by simp [sNrS, zR])) ⟨0, rfl, Nat.zero_le _, rfl⟩ ?_
  rintro n st ⟨k, hn, hk, rfl⟩ KN hN
  by_cases h : k < l.length
  · have hbl := bst_le G k
    have h' : bst G k < l.length := by omega
    have hx := List.getElem?_eq_getElem h
    have hy := List.getElem?_eq_getElem h'
    obtain ⟨⟨⟨u1, u2⟩, u3, u4⟩, hu⟩ : ∃ q, q = l[k] := ⟨_, rfl⟩
    obtain ⟨⟨⟨x1, x2⟩, x3, x4⟩, hw⟩ : ∃ q, q = l[bst G k] := ⟨_, rfl⟩
    rw [← hu] at hx
    rw [← hw] at hy
    have e1 : ix (l.map vN) k = some (.agg [nD (Rat.divInt u1 u2), nD (Rat.divInt u3 u4)]) := by unfold ix; rw [List.getElem?_map, hx]; rfl
    have g1 : G k = dist2Q (Rat.divInt u1 u2) (Rat.divInt u3 u4) (Rat.divInt a b) (Rat.divInt c d) := by rw [← hG]; unfold gQ; rw [hx]
    have g2 : G (bst G k) = dist2Q (Rat.divInt x1 x2) (Rat.divInt x3 x4) (Rat.divInt a b) (Rat.divInt c d) := by
      have : ∀ j, l[j]? = some ((x1, x2), x3, x4) → G j = dist2Q (Rat.divInt x1 x2) (Rat.divInt x3 x4) (Rat.divInt a b) (Rat.divInt c d) := fun j hj => by rw [← hG]; unfold gQ; rw [hj]
      exact this _ hy
    have ou : qOk u1 u2 ∧ qOk u3 u4 := hgd _ (List.mem_of_getElem? hx)
    have ow : qOk x1 x2 ∧ qOk x3 x4 := hgd _ (List.mem_of_getElem? hy)
    have z1 := QI_qsz (qOk_QI ou.1)
    have z2 := QI_qsz (qOk_QI ou.2)
    have z3 := QI_qsz (qOk_QI ow.1)
    have z4 := QI_qsz (qOk_QI ow.2)
    have z5 := QI_qsz (qOk_QI h4.1)
    have z6 := QI_qsz (qOk_QI h4.2)
    have d1 := dist2Q_sz (Rat.divInt u1 u2) (Rat.divInt u3 u4) (Rat.divInt a b) (Rat.divInt c d)
    have d2 := dist2Q_sz (Rat.divInt x1 x2) (Rat.divInt x3 x4) (Rat.divInt a b) (Rat.divInt c d)
    have t1 := qsz_sub (Rat.divInt u1 u2) (Rat.divInt a b)
    have t2 := qsz_sub (Rat.divInt u3 u4) (Rat.divInt c d)
    generalize Rat.divInt u1 u2 = U1 at *
    generalize Rat.divInt u3 u4 = U2 at *
    generalize Rat.divInt x1 x2 = X1 at *
    generalize Rat.divInt x3 x4 = X2 at *
    obtain ⟨A, hA⟩ : ∃ A, A = Rat.divInt a b := ⟨_, rfl⟩
    obtain ⟨B, hB⟩ : ∃ B, B = Rat.divInt c d := ⟨_, rfl⟩
    rw [← hA, ← hB] at d1 d2 g1 g2
    rw [← hA] at z5 t1
    rw [← hB] at z6 t2
    have s1 : qsz U1 + qsz U2 + qsz A + qsz B < LM := by rw [LM_val]; omega
    have s2 : qsz (U1 - A) + qsz (U2 - B) + qsz (U1 - A) + qsz (U2 - B) < LM := by rw [LM_val]; omega
    have s3 : qsz (dotQ (U1 - A) (U2 - B) (U1 - A) (U2 - B)) + qsz (G (bst G k)) < MX := by
      rw [g2, MX_val]
      have : dotQ (U1 - A) (U2 - B) (U1 - A) (U2 - B) = dist2Q U1 U2 A B := rfl
      rw [this]; omega
    have w1 : IntKind.i64.wrap ((k : Int) + 1) = (k : Int) + 1 := i64_id _ (by omega) (by omega)
    have eb : bst G (k + 1) = if qcmp (dotQ (U1 - A) (U2 - B) (U1 - A) (U2 - B)) (G (bst G k)) < 0 then k else bst G k := by
      have : dotQ (U1 - A) (U2 - B) (U1 - A) (U2 - B) = G k := g1.symm
      rw [this]; rfl
    have g1' : dotQ (U1 - A) (U2 - B) (U1 - A) (U2 - B) = G k := g1.symm
    by_cases h0 : k = 0
    · subst h0
      have eb1 : bst G 1 = 0 := by
        unfold bst; split <;> rfl
      have w0 : IntKind.i64.wrap 1 = 1 := by decide
      simp [-D.isLit, sNrS, sNrB, sNrG, h, e1, y1, y2, i1, i2, i3, i4, s1, s2, w0, ← hA, ← hB]
      exact hN _ (nx (m := l.length - (0 + 1)) (s'' := sNrS l (.agg [eQ a b, eQ c d]) (sNrB G (0 + 1)) (sNrG G (0 + 1)) (0 + 1)) (snd_obs (n := 52) [(3, 3, .box (.agg [eQ a b, eQ c d])), (8, 8, .box (sNrG G (0 + 1)))] rfl (by simp [sNrG, eb1, g1']) (by simp [sNrS, sNrB, eb1])) ⟨0 + 1, rfl, h, rfl⟩ (by omega))
    have hb0 : ¬ ((bst G k : Nat) : Int) < 0 := by omega
    by_cases hc : qcmp (dotQ (U1 - A) (U2 - B) (U1 - A) (U2 - B)) (G (bst G k)) < 0
    · rw [if_pos hc] at eb
      simp [-D.isLit, sNrS, sNrB, sNrG, h, h0, hb0, e1, y1, y2, i1, i2, i3, i4, s1, s2, s3, hc, w1, ← hA, ← hB]
      exact hN _ (nx (m := l.length - (k + 1)) (s'' := sNrS l (.agg [eQ a b, eQ c d]) (sNrB G (k + 1)) (sNrG G (k + 1)) (k + 1)) (snd_obs (n := 52) [(3, 3, .box (.agg [eQ a b, eQ c d])), (8, 8, .box (sNrG G (k + 1)))] rfl (by simp [sNrG, eb, g1']) (by simp [sNrS, sNrB, eb])) ⟨k + 1, rfl, h, rfl⟩ (by omega))
    · rw [if_neg hc] at eb
      simp [-D.isLit, sNrS, sNrB, sNrG, h, h0, hb0, e1, y1, y2, i1, i2, i3, i4, s1, s2, s3, hc, w1, ← hA, ← hB]
      exact hN _ (nx (m := l.length - (k + 1)) (s'' := sNrS l (.agg [eQ a b, eQ c d]) (sNrB G (k + 1)) (sNrG G (k + 1)) (k + 1)) (snd_obs (n := 52) [(3, 3, .box (.agg [eQ a b, eQ c d])), (8, 8, .box (sNrG G (k + 1)))] rfl (by simp [sNrG, eb]) (by simp [sNrS, sNrB, eb])) ⟨k + 1, rfl, h, rfl⟩ (by omega))
  · have hkl : k = l.length := by omega
    subst hkl
    by_cases h0 : l.length = 0
    · have hl0 : l = [] := List.eq_nil_of_length_eq_zero h0
      subst hl0
      simp [sNrS, sNrB]
    · have hl0 : l ≠ [] := fun x => h0 (by rw [x]; rfl)
      simp [sNrS, sNrB, h0, hl0]
theorem sNr_ok : callable Tryz.prog 27 = true := by kernel_rfl

/-! l.FnExactNearest -/
noncomputable def lwNearestC := ct2 EVL EV (fun l v => (l.length ≤ 9223372036854775807 ∧ ∀ u ∈ l, V64 u) ∧ V64 v) (fun l v => [.lit (.bool true)])
theorem lwNearestC_at (l : List ((Int × Int) × Int × Int)) (a b c d : Int) : lwNearestC [.sl 4 (l.map EV.e), .agg [eQ a b, eQ c d]] = (((l.length ≤ 9223372036854775807 ∧ ∀ u ∈ l, V64 u) ∧ V64 ((a, b), c, d)), [.lit (.bool true)]) := ct2_at (A := EVL) (B := EV) l ((a, b), c, d)
noncomputable def lwNearestTb : List (FuncId × Ct) := [(26, .data szVSC), (28, .data toVSC), (13, .data toVC), (29, .data iNrC), (27, .data iNrC), (30, .data eqVSC)]
theorem lwNearestTb_ok : TbOK NF Tryz.prog (tbl lwNearestTb) := tbl_cons (c := .data szVSC) szVS_spec szVS_ok (tbl_cons (c := .data toVSC) toVS_spec toVS_ok (tbl_cons (c := .data toVC) toV_spec toV_ok (tbl_cons (c := .data iNrC) iNr_spec iNr_ok (tbl_cons (c := .data iNrC) sNr_spec sNr_ok (tbl_cons (c := .data eqVSC) eqVS_spec eqVS_ok tbl_nil)))))

@[simp] theorem lwNearestTb1 : tbl lwNearestTb 26 = some (.data szVSC) := rfl
@[simp] theorem lwNearestTb2 : tbl lwNearestTb 28 = some (.data toVSC) := rfl
@[simp] theorem lwNearestTb3 : tbl lwNearestTb 13 = some (.data toVC) := rfl
@[simp] theorem lwNearestTb4 : tbl lwNearestTb 29 = some (.data iNrC) := rfl
@[simp] theorem lwNearestTb5 : tbl lwNearestTb 27 = some (.data iNrC) := rfl
@[simp] theorem lwNearestTb6 : tbl lwNearestTb 30 = some (.data eqVSC) := rfl
theorem lwNearest_spec : SpecD NF Tryz.prog 8 lwNearestC := by
  refine rd2 (mf := fun f => false) lwNearestTb_ok (fn := Tryz.f8) (by kernel_rfl) rfl (by kernel_rfl) (by kernel_rfl) ?_
  rintro l ⟨⟨a, b⟩, c, d⟩ ⟨⟨hl, hb⟩, hv⟩
  have hv0 : V64 ((a, b), c, d) := hv
  obtain ⟨⟨i1, i2⟩, i3, i4⟩ := hv
  have i1 : I64 a := i1
  have i2 : I64 b := i2
  have i3 : I64 c := i3
  have i4 : I64 d := i4
  show awp _ _ _ _ (start _ ([.sl 4 (l.map EV.e), .agg [eQ a b, eQ c d]].map .dat) []) (endK _ _ _ ([D.lit (.bool true)].map .dat) [])
  by_cases h : (1048576 : Int) < l.length
  · simp [-D.isLit, -iNrC_at, Tryz.f8, i1, i2, i3, i4, hl, h]
  · have h' : ¬ (1048576 : Int) - l.length < 0 := by omega
    have h'' : l.length < 4194304 := by omega
    have h3 : l.length < 4611686018427387904 := by omega
    have c1 := iNrC_at l a b c d
    rw [eq_true (⟨⟨h3, hb⟩, hv0⟩ : (l.length < 4611686018427387904 ∧ ∀ u ∈ l, V64 u) ∧ V64 ((a, b), c, d))] at c1
    generalize nearI l ((a, b), c, d) = r at c1
    simp [-D.isLit, -iNrC_at, Tryz.f8, c1, i1, i2, i3, i4, hl, h, h', h'', h3]
theorem lwNearest_ok : callable Tryz.prog 8 = true := by kernel_rfl
theorem lt_maxLen {n : Nat} (h : n ≤ maxLen) : n ≤ 9223372036854775807 := h
set_option maxRecDepth 100000 in
theorem lwNearest_calls {d0 d1 : D} (s0 : shp Tryz.prog 8 46 d0) (s1 : shp Tryz.prog 8 25 d1) {v0 v1 : Value} {w : World} (hrep : RepVs NF (fun b => b < w.heap.size) w [d0, d1] [v0, v1]) :
    Calls Tryz.prog 8 #[v0, v1] w fun e w' => e = .returned (.bool true) ∧ Below w.heap.size w w' := by
  obtain ⟨l, rfl, hl, hb⟩ := shp_lVS (n := 4) s0
  obtain ⟨⟨⟨a, b⟩, c, d⟩, rfl, hv⟩ := shp_lV (n := 5) s1
  have hl' : l.length ≤ 9223372036854775807 := lt_maxLen hl
  exact law_callsM lwNearest_spec (ds := [.sl 4 (l.map EV.e), .agg [eQ a b, eQ c d]]) (by rw [lwNearestC_at]; exact ⟨⟨hl', hb⟩, hv⟩) (by rw [lwNearestC_at]; rfl) (vs := [v0, v1]) hrep
end Go.Proofs.YtlniifhdimaliaaGreat.Ae

/-! Farthest: the plain part; points; the program. No condition. -/
namespace Go.Proofs.YtlniifhdimaliaaGreat.Ae
open Go Go.RowKit Go.Proofs.YtlniifhdimaliaaGreat.Dig

/-- How far two of the places are from one another. -/
def gP (l : List ((Int × Int) × Int × Int)) (i j : Nat) : Rat := match l[i]?, l[j]? with
  | some u, some v => dist2Q (Rat.divInt u.1.1 u.1.2) (Rat.divInt u.2.1 u.2.2) (Rat.divInt v.1.1 v.1.2) (Rat.divInt v.2.1 v.2.2)
  | _, _ => 0
/-- The first of the farthest pairs, when those of i and the next m have been looked at. -/
def fin1 (G : Nat → Nat → Rat) (i : Nat) (c : Nat × Nat) : Nat → Nat × Nat
  | 0 => c
  | m + 1 => if 0 < qcmp (G i (i + 1 + m)) (G (fin1 G i c m).1 (fin1 G i c m).2) then (i, i + 1 + m) else fin1 G i c m
def fout (G : Nat → Nat → Rat) (n : Nat) : Nat → Nat × Nat
  | 0 => (0, 1)
  | i + 1 => fin1 G i (fout G n i) (n - (i + 1))
theorem fin1_lt {G : Nat → Nat → Rat} {n i : Nat} {c : Nat × Nat} (hi : i < n) (h1 : c.1 < n) (h2 : c.2 < n) (h3 : c.2 ≠ 0) : ∀ m, i + 1 + m ≤ n → (fin1 G i c m).1 < n ∧ (fin1 G i c m).2 < n ∧ (fin1 G i c m).2 ≠ 0
  | 0, _ => ⟨h1, h2, h3⟩
  | m + 1, hm => by
    have ih := fin1_lt (G := G) hi h1 h2 h3 m (by omega)
    unfold fin1
    split
    · exact ⟨hi, by show i + 1 + m < n; omega, by show i + 1 + m ≠ 0; omega⟩
    · exact ih
theorem fout_lt {G : Nat → Nat → Rat} {n : Nat} (hn : 2 ≤ n) : ∀ i, i ≤ n → (fout G n i).1 < n ∧ (fout G n i).2 < n ∧ (fout G n i).2 ≠ 0
  | 0, _ => ⟨by show 0 < n; omega, by show 1 < n; omega, by show (1 : Nat) ≠ 0; omega⟩
  | i + 1, hi => by
    have ih := fout_lt (G := G) hn i (by omega)
    exact fin1_lt (by omega) ih.1 ih.2.1 ih.2.2 _ (by omega)
theorem qcmp_self (a : Rat) : qcmp a a = 0 := by unfold qcmp; rw [Int.sub_self]; rfl
theorem gP_sz {l : List ((Int × Int) × Int × Int)} (h : ∀ x ∈ l, vOk x) (i j : Nat) : qsz (gP l i j) ≤ 100 := by
  unfold gP
  split
  · rename_i u v hu hv
    have h1 := vOk_sz (h u (List.mem_of_getElem? hu))
    have h2 := vOk_sz (h v (List.mem_of_getElem? hv))
    have := dist2Q_sz (Rat.divInt u.1.1 u.1.2) (Rat.divInt u.2.1 u.2.2) (Rat.divInt v.1.1 v.1.2) (Rat.divInt v.2.1 v.2.2)
    omega
  · decide +kernel
theorem gP_at {l : List ((Int × Int) × Int × Int)} {i j : Nat} {a b c d e f g h : Int} (hi : l[i]? = some ((a, b), c, d)) (hj : l[j]? = some ((e, f), g, h)) : gP l i j = dist2Q (Rat.divInt a b) (Rat.divInt c d) (Rat.divInt e f) (Rat.divInt g h) := by unfold gP; rw [hi, hj]
/-- What Farthest tells. -/
def farT (o : Int × Int × (Int × Int) × Bool) : List D := [.lit (.int .i64 o.1), .lit (.int .i64 o.2.1), eQ o.2.2.1.1 o.2.2.1.2, .lit (.bool o.2.2.2)]
def farO (p : Nat × Nat) (q : Rat) : Int × Int × (Int × Int) × Bool := if (oq q).2.2 = true then (p.1, p.2, ((oq q).1, (oq q).2.1), true) else (0, 0, (0, 0), false)
def farOk (l : List ((Int × Int) × Int × Int)) : Prop := 2 ≤ l.length ∧ l.length ≤ 200 ∧ (l.all fun u => decide (vOk u)) = true
instance (l : List ((Int × Int) × Int × Int)) : Decidable (farOk l) := by unfold farOk; infer_instance
def farI (l : List ((Int × Int) × Int × Int)) : Int × Int × (Int × Int) × Bool := if farOk l then farO (fout (gP l) l.length l.length) (gP l (fout (gP l) l.length l.length).1 (fout (gP l) l.length l.length).2) else (0, 0, (0, 0), false)
def vR (u : (Int × Int) × Int × Int) : D := .agg [eRat (Rat.divInt u.1.1 u.1.2), eRat (Rat.divInt u.2.1 u.2.2)]

/-! i.points -/
noncomputable def pointsC := ct1 EVL (fun l => l.length ≤ 200 ∧ ∀ v ∈ l, vOk v) (fun l => [.sl 6 (l.map vR)])
@[simp] theorem pointsC_at (l : List ((Int × Int) × Int × Int)) : pointsC [.sl 4 (l.map EV.e)] = ((l.length ≤ 200 ∧ ∀ v ∈ l, vOk v), [.sl 6 (l.map vR)]) := ct1_at (A := EVL) l
noncomputable def pointsTb : List (FuncId × Ct) := [(52, .data pvC)]
theorem pointsTb_ok {N : NR} : TbOK N Tryz.prog (tbl pointsTb) := tbl_cons (c := .data pvC) pv_spec pv_ok tbl_nil

@[simp] theorem pointsTb1 : tbl pointsTb 52 = some (.data pvC) := rfl
def pointsS (l p : List ((Int × Int) × Int × Int)) : St := ⟨[.any, .any, .any, .row 6, .any, .any, .any, .dat (.sl 4 (l.map EV.e)), .dat (.lit (.int .i64 l.length)), .dat (.lit (.int .i64 p.length)), .any, .any, .any, .any, .any, .any, .any, .any, .any, .any], [none, none, none, none, none, none, some (.row 6 90 (p.map vR)), none, none, none, none, none, none, none, none, none, none, none, none, none]⟩
theorem points_spec {N : NR} : SpecD N Tryz.prog 93 pointsC := by
  refine rd1 (mf := fun f => false) pointsTb_ok (fn := Tryz.f93) (by kernel_rfl) rfl (by kernel_rfl) (by kernel_rfl) ?_
  rintro l ⟨hl, hb⟩
  show awp _ _ _ _ (start _ ([.sl 4 (l.map EV.e)].map .dat) []) (endK _ _ _ ([.sl 6 (l.map vR)].map .dat) [])
  simp only [Tryz.f93]
  simp [-D.isLit]
  refine loop_go (fun n st => ∃ p q, l = p ++ q ∧ n = q.length ∧ st = pointsS l p) (s0 := pointsS l []) (n := l.length) (snd_of (by simp [LeT, pointsS]) (by simp [pointsS])) ⟨[], l, rfl, rfl, rfl⟩ ?_
  rintro n st ⟨p, q, rfl, rfl, rfl⟩ KN hN
  cases q with
  | nil => simp [-D.isLit, pointsS]
  | cons v q =>
    obtain ⟨⟨a, b⟩, c, d⟩ := v
    have hok : qOk a b ∧ qOk c d := hb ((a, b), c, d) (by simp)
    have q1 := qOk_QI hok.1
    have q2 := qOk_QI hok.2
    have e1 : ix (p.map EV.e ++ .agg [eQ a b, eQ c d] :: q.map EV.e) p.length = some (.agg [eQ a b, eQ c d]) := ix_mem (by simp)
    have w1 : IntKind.i64.wrap ((p.length : Int) + 1) = (p.length : Int) + 1 := i64_id _ (by omega) (by simp at hl; omega)
    have e4 : (p.length : Int) < p.length + (q.length + 1) := by omega
    simp [-D.isLit, pointsS, e1, e4, w1, q1, q2]
    have hp200 : p.length ≤ 200 := by simp at hl; omega
    have hp32 : p.length + 1 ≤ maxLen := by unfold maxLen; omega
    refine ⟨⟨by omega, hp32⟩, hN _ (nx (m := q.length) (s'' := pointsS (p ++ ((a, b), c, d) :: q) (p ++ [((a, b), c, d)])) (snd_obs (n := 20) [(6, 17, .row 6 90 ((p ++ [((a, b), c, d)]).map vR))] rfl (by simp [vR]) (by simp [pointsS])) ⟨p ++ [((a, b), c, d)], q, by simp, rfl, rfl⟩ (by simp))⟩
theorem points_ok : callable Tryz.prog 93 = true := by kernel_rfl

/-! i.Farthest -/
noncomputable def iFarC := ct1 EVL (fun l => l.length < 4611686018427387904 ∧ ∀ v ∈ l, V64 v) (fun l => farT (farI l))
@[simp] theorem iFarC_at (l : List ((Int × Int) × Int × Int)) : iFarC [.sl 4 (l.map EV.e)] = ((l.length < 4611686018427387904 ∧ ∀ v ∈ l, V64 v), farT (farI l)) := ct1_at (A := EVL) l
noncomputable def iFarTb : List (FuncId × Ct) := [(72, .data allVC), (93, .data pointsC), (66, .data dst2C), (73, .data rcC), (67, .data rqqC)]
theorem iFarTb_ok {N : NR} : TbOK N Tryz.prog (tbl iFarTb) := tbl_cons (c := .data allVC) allV_spec allV_ok (tbl_cons (c := .data pointsC) points_spec points_ok (tbl_cons (c := .data dst2C) dst2_spec dst2_ok (tbl_cons (c := .data rcC) rcmp_spec rcmp_ok (tbl_cons (c := .data rqqC) rqq_spec rqq_ok tbl_nil))))

@[simp] theorem iFarTb1 : tbl iFarTb 72 = some (.data allVC) := rfl
@[simp] theorem iFarTb2 : tbl iFarTb 93 = some (.data pointsC) := rfl
@[simp] theorem iFarTb3 : tbl iFarTb 66 = some (.data dst2C) := rfl
@[simp] theorem iFarTb4 : tbl iFarTb 73 = some (.data rcC) := rfl
@[simp] theorem iFarTb5 : tbl iFarTb 67 = some (.data rqqC) := rfl
def zQ : D := .agg [.lit (.int .i64 0), .lit (.int .i64 0)]
@[simp] theorem zQ_size : zQ.size = 2 := rfl
def iFarS (l : List ((Int × Int) × Int × Int)) (G : Nat → Nat → Rat) (p : Nat × Nat) (i : Nat) : St := ⟨[.any, .any, .any, .any, .obj 4 [] 0, .any, .dat (.sl 6 (l.map vR)), .dat (.lit (.int .i64 p.1)), .dat (.lit (.int .i64 p.2)), .obj 9 [] 0, .any, .any, .any, .any, .any, .any, .any, .any, .any, .any, .any, .any, .any, .any, .any, .any, .any, .any, .any, .any, .any, .any, .any, .any, .any, .any, .any, .any, .any, .dat (.lit (.int .i64 l.length)), .dat (.lit (.int .i64 i)), .any, .any, .any, .any, .any, .any, .any, .any, .any, .any, .any, .any, .any, .any, .any, .any, .any, .any, .any, .any, .any, .any, .any, .any, .any, .any, .any, .any, .any, .any, .any, .any, .any, .any, .any, .any, .any, .any], [none, none, none, none, some (.box zQ), none, none, none, none, some (.box (eRat (G p.1 p.2))), none, none, none, none, none, none, none, none, none, none, none, none, none, none, none, none, none, none, none, none, none, none, none, none, none, none, none, none, none, none, none, none, none, none, none, none, none, none, none, none, none, none, none, none, none, none, none, none, none, none, none, none, none, none, none, none, none, none, none, none, none, none, none, none, none, none, none, none, none]⟩
def iFarS2 (l : List ((Int × Int) × Int × Int)) (G : Nat → Nat → Rat) (p : Nat × Nat) (i j : Nat) : St := ⟨[.any, .any, .any, .any, .obj 4 [] 0, .any, .dat (.sl 6 (l.map vR)), .dat (.lit (.int .i64 p.1)), .dat (.lit (.int .i64 p.2)), .obj 9 [] 0, .dat (.lit (.int .i64 i)), .dat (.lit (.int .i64 j)), .any, .any, .any, .any, .any, .any, .any, .any, .any, .any, .any, .any, .any, .any, .any, .any, .any, .any, .any, .any, .any, .any, .any, .any, .any, .any, .any, .dat (.lit (.int .i64 l.length)), .dat (.lit (.int .i64 i)), .any, .any, .any, .any, .any, .any, .any, .any, .any, .any, .any, .any, .any, .any, .any, .any, .any, .any, .any, .any, .any, .any, .any, .any, .any, .any, .any, .any, .any, .any, .any, .any, .any, .any, .any, .any, .any, .any], [none, none, none, none, some (.box zQ), none, none, none, none, some (.box (eRat (G p.1 p.2))), none, none, none, none, none, none, none, none, none, none, none, none, none, none, none, none, none, none, none, none, none, none, none, none, none, none, none, none, none, none, none, none, none, none, none, none, none, none, none, none, none, none, none, none, none, none, none, none, none, none, none, none, none, none, none, none, none, none, none, none, none, none, none, none, none, none, none, none, none]⟩
theorem place_at {l : List ((Int × Int) × Int × Int)} {E : ((Int × Int) × Int × Int) → D} {k : Nat} (h : k < l.length) : ∃ a b c d, l[k]? = some ((a, b), c, d) ∧ ix (l.map E) k = some (E ((a, b), c, d)) ∧ ((a, b), c, d) ∈ l := by
  have hx := List.getElem?_eq_getElem h
  obtain ⟨⟨⟨a, b⟩, c, d⟩, hq⟩ : ∃ q, q = l[k] := ⟨_, rfl⟩
  rw [← hq] at hx
  exact ⟨a, b, c, d, hx, by unfold ix; rw [List.getElem?_map, hx]; rfl, List.mem_of_getElem? hx⟩
set_option maxRecDepth 100000 in
set_option maxHeartbeats 4000000 in
theorem iFar_spec {N : NR} : SpecD N Tryz.prog 42 iFarC := by
  refine rd1 (mf := fun f => false) iFarTb_ok (fn := Tryz.f42) (by kernel_rfl) rfl (by kernel_rfl) (by kernel_rfl) ?_
  rintro l ⟨hl, hb⟩
  generalize hr : farI l = r
  show awp _ _ _ _ (start _ ([.sl 4 (l.map EV.e)].map .dat) []) (endK _ _ _ ((farT r).map .dat) [])
  simp only [Tryz.f42]
  by_cases h1 : l.length < 2
  · have e : r = (0, 0, (0, 0), false) := by rw [← hr]; unfold farI; rw [if_neg (fun x => by have := x.1; omega)]
    subst e
    have h1' : (l.length : Int) < 2 := by omega
    simp [-D.isLit, h1', farT, eQ, i64D]
  have h1' : ¬ (l.length : Int) < 2 := by omega
  by_cases h2 : 200 < l.length
  · have e : r = (0, 0, (0, 0), false) := by rw [← hr]; unfold farI; rw [if_neg (fun x => by have := x.2.1; omega)]
    subst e
    have h2' : (200 : Int) < l.length := by omega
    simp [-D.isLit, h1', h2', farT, eQ, i64D]
  have h2' : ¬ (200 : Int) < l.length := by omega
  cases h3 : (l.all fun u => decide (vOk u))
  · have e : r = (0, 0, (0, 0), false) := by rw [← hr]; unfold farI; rw [if_neg (fun x => by have := x.2.2; rw [h3] at this; cases this)]
    subst e
    have c1 := allVC_at l
    rw [h3, eq_true (⟨hl, hb⟩ : l.length < 4611686018427387904 ∧ ∀ v ∈ l, V64 v)] at c1
    simp [-D.isLit, -allVC_at, h1', h2', c1, farT, eQ, i64D]
  have c1 := allVC_at l
  rw [h3, eq_true (⟨hl, hb⟩ : l.length < 4611686018427387904 ∧ ∀ v ∈ l, V64 v)] at c1
  have hgd : ∀ x ∈ l, vOk x := fun x hx => of_decide_eq_true (List.all_eq_true.1 h3 x hx)
  have h200 : l.length ≤ 200 := by omega
  have c2 := pointsC_at l
  rw [eq_true (⟨h200, hgd⟩ : l.length ≤ 200 ∧ ∀ v ∈ l, vOk v)] at c2
  have e : r = farO (fout (gP l) l.length l.length) (gP l (fout (gP l) l.length l.length).1 (fout (gP l) l.length l.length).2) := by
    rw [← hr]; unfold farI; rw [if_pos ⟨by omega, h200, h3⟩]
  have hGs := gP_sz hgd
  obtain ⟨a0, b0, c0, d0, m0, p0, n0⟩ := place_at (E := vR) (show 0 < l.length by omega)
  obtain ⟨a1, b1, c1', d1, m1, p1, n1⟩ := place_at (E := vR) (show 1 < l.length by omega)
  have g01 := gP_at m0 m1
  have p0 : ix (l.map vR) 0 = some (.agg [eRat (Rat.divInt a0 b0), eRat (Rat.divInt c0 d0)]) := p0
  have p1 : ix (l.map vR) 1 = some (.agg [eRat (Rat.divInt a1 b1), eRat (Rat.divInt c1' d1)]) := p1
  have z1 : qsz (Rat.divInt a0 b0) ≤ 2 ∧ qsz (Rat.divInt c0 d0) ≤ 2 := vOk_sz (hgd _ n0)
  have z2 : qsz (Rat.divInt a1 b1) ≤ 2 ∧ qsz (Rat.divInt c1' d1) ≤ 2 := vOk_sz (hgd _ n1)
  have s0 : qsz (Rat.divInt a0 b0) + qsz (Rat.divInt c0 d0) + qsz (Rat.divInt a1 b1) + qsz (Rat.divInt c1' d1) < 100000000 := by omega
  have hlt := fun i => fout_lt (G := gP l) (n := l.length) (by omega) i
  generalize hG : gP l = G at *
  simp [-D.isLit, -allVC_at, -pointsC_at, h1', h2', c1, c2, p0, p1, s0, ← g01]
  refine loop_go (fun n st => ∃ i, n = l.length - i ∧ i ≤ l.length ∧ st = iFarS l G (fout G l.length i) i) (s0 := iFarS l G (0, 1) 0) (n := l.length) (snd_of (by simp [LeT, iFarS]) (by simp [iFarS, zQ])) ⟨0, rfl, Nat.zero_le _, rfl⟩ ?_
  rintro n st ⟨i, hn, hi, rfl⟩ KN hN
  by_cases h : i < l.length
  · have hi1 : ((i : Nat) : Int) < l.length := by omega
    have w1 : IntKind.i64.wrap ((i : Int) + 1) = (i : Int) + 1 := i64_id _ (by omega) (by omega)
    obtain ⟨a, b, c, d, m2, p2, n2⟩ := place_at (E := vR) h
    have p2 : ix (l.map vR) i = some (.agg [eRat (Rat.divInt a b), eRat (Rat.divInt c d)]) := p2
    have z3 : qsz (Rat.divInt a b) ≤ 2 ∧ qsz (Rat.divInt c d) ≤ 2 := vOk_sz (hgd _ n2)
    simp [-D.isLit, iFarS, h, w1]
    refine loop_go (fun n st => ∃ j m, j = i + 1 + m ∧ n = l.length - j ∧ j ≤ l.length ∧ st = iFarS2 l G (fin1 G i (fout G l.length i) m) i j) (s0 := iFarS2 l G (fout G l.length i) i (i + 1)) (n := l.length - (i + 1)) (snd_of (by simp [LeT, iFarS2]) (by simp [iFarS2])) ⟨i + 1, 0, rfl, rfl, h, rfl⟩ ?_
    rintro n' st' ⟨j, m, hj, hn', hj', rfl⟩ KM hM
    have hf := hlt i hi
    have hfm := fin1_lt (G := G) (n := l.length) h hf.1 hf.2.1 hf.2.2 m (by omega)
    by_cases h' : j < l.length
    · obtain ⟨e, f, g, k, m3, p3, n3⟩ := place_at (E := vR) h'
      have p3 : ix (l.map vR) j = some (.agg [eRat (Rat.divInt e f), eRat (Rat.divInt g k)]) := p3
      have z4 : qsz (Rat.divInt e f) ≤ 2 ∧ qsz (Rat.divInt g k) ≤ 2 := vOk_sz (hgd _ n3)
      have w2 : IntKind.i64.wrap ((j : Int) + 1) = (j : Int) + 1 := i64_id _ (by omega) (by omega)
      have gij : G i j = dist2Q (Rat.divInt a b) (Rat.divInt c d) (Rat.divInt e f) (Rat.divInt g k) := by rw [← hG]; exact gP_at m2 m3
      have s1 : qsz (Rat.divInt a b) + qsz (Rat.divInt c d) + qsz (Rat.divInt e f) + qsz (Rat.divInt g k) < 100000000 := by omega
      have s2 : qsz (G i j) + qsz (G (fin1 G i (fout G l.length i) m).1 (fin1 G i (fout G l.length i) m).2) < MX := by
        have := hGs i j
        have := hGs (fin1 G i (fout G l.length i) m).1 (fin1 G i (fout G l.length i) m).2
        rw [MX_val]; omega
      have eb : fin1 G i (fout G l.length i) (m + 1) = if 0 < qcmp (G i j) (G (fin1 G i (fout G l.length i) m).1 (fin1 G i (fout G l.length i) m).2) then (i, j) else fin1 G i (fout G l.length i) m := by subst hj; rfl
      generalize fin1 G i (fout G l.length i) m = C at *
      by_cases hc : 0 < qcmp (G i j) (G C.1 C.2)
      · rw [if_pos hc] at eb
        simp [-D.isLit, iFarS2, h, h', p2, p3, s1, s2, hc, w2, ← gij]
        exact hM _ (nx (m := l.length - (j + 1)) (s'' := iFarS2 l G (fin1 G i (fout G l.length i) (m + 1)) i (j + 1)) (snd_obs (n := 79) [(4, 4, .box zQ), (9, 9, .box (eRat (G (fin1 G i (fout G l.length i) (m + 1)).1 (fin1 G i (fout G l.length i) (m + 1)).2)))] rfl (by simp [eb]) (by simp [iFarS2, eb])) ⟨j + 1, m + 1, by omega, rfl, h', rfl⟩ (by omega))
      · rw [if_neg hc] at eb
        simp [-D.isLit, iFarS2, h, h', p2, p3, s1, s2, hc, w2, ← gij]
        exact hM _ (nx (m := l.length - (j + 1)) (s'' := iFarS2 l G (fin1 G i (fout G l.length i) (m + 1)) i (j + 1)) (snd_obs (n := 79) [(4, 4, .box zQ), (9, 9, .box (eRat (G (fin1 G i (fout G l.length i) (m + 1)).1 (fin1 G i (fout G l.length i) (m + 1)).2)))] rfl (by simp [eb]) (by simp [iFarS2, eb])) ⟨j + 1, m + 1, by omega, rfl, h', rfl⟩ (by omega))
    · have hjl : j = l.length := by omega
      have hm : m = l.length - (i + 1) := by omega
      have e1 : fin1 G i (fout G l.length i) m = fout G l.length (i + 1) := by rw [hm]; rfl
      rw [e1]
      subst hjl
      simp [-D.isLit, iFarS2, w1]
      exact hN _ (nx (m := l.length - (i + 1)) (s'' := iFarS l G (fout G l.length (i + 1)) (i + 1)) (snd_of (by simp [LeT, iFarS]) (by simp [iFarS])) ⟨i + 1, rfl, h, rfl⟩ (by omega))
  · have hil : i = l.length := by omega
    subst hil
    have hf := hlt l.length (Nat.le_refl _)
    generalize fout G l.length l.length = C at *
    subst e
    cases hq : (oq (G C.1 C.2)).2.2
    · simp [-D.isLit, iFarS, farT, farO, hq, zQ, eQ, i64D]
    · simp [-D.isLit, iFarS, farT, farO, hq, zQ, eQ, i64D]
theorem iFar_ok : callable Tryz.prog 42 = true := by kernel_rfl
end Go.Proofs.YtlniifhdimaliaaGreat.Ae

/-! Farthest: the reference, and the law. No condition. -/
namespace Go.Proofs.YtlniifhdimaliaaGreat.Ae
open Go Go.RowKit Go.Proofs.YtlniifhdimaliaaGreat.Dig

def l9R (l : List ((Int × Int) × Int × Int)) (n : Int) : List ((Int × Int) × Int × Int) × Bool := if n < l.length then ([], false) else (l.takeWhile okV, l.all okV)
noncomputable def l9C := ct2 EVL EInt (fun l n => (l.length < 4611686018427387904 ∧ ∀ v ∈ l, V64 v) ∧ n ≤ 200) (fun l n => [.sl 6 ((l9R l n).1.map vN), .lit (.bool (l9R l n).2)])
@[simp] theorem l9C_at (l : List ((Int × Int) × Int × Int)) (n : Int) : l9C [.sl 4 (l.map EV.e), .lit (.int .i64 n)] = (((l.length < 4611686018427387904 ∧ ∀ v ∈ l, V64 v) ∧ n ≤ 200), [.sl 6 ((l9R l n).1.map vN), .lit (.bool (l9R l n).2)]) := ct2_at (A := EVL) (B := EInt) l n
noncomputable def l9Tb : List (FuncId × Ct) := [(43, .data sVOkC), (46, .data l3pC)]
theorem l9Tb_ok : TbOK NF Tryz.prog (tbl l9Tb) := tbl_cons (c := .data sVOkC) sVOk_spec sVOk_ok (tbl_cons (c := .data l3pC) l3p_spec l3p_ok tbl_nil)

@[simp] theorem l9Tb1 : tbl l9Tb 43 = some (.data sVOkC) := rfl
@[simp] theorem l9Tb2 : tbl l9Tb 46 = some (.data l3pC) := rfl
def l9S (l p : List ((Int × Int) × Int × Int)) : St := ⟨[.dat (.sl 4 (l.map EV.e)), .any, .any, .any, .any, .any, .row 8, .dat (.lit (.int .i64 p.length)), .any, .any, .any, .any, .any, .any, .any, .any, .any, .any, .any, .any, .any, .any, .any, .any, .any, .any, .any, .any, .any, .any, .any, .any, .any, .any, .any, .any], [none, none, none, none, none, none, none, none, some (.row 6 83 (p.map vN)), none, none, none, none, none, none, none, none, none, none, none, none, none, none, none, none, none, none, none, none, none, none, none, none, none, none, none]⟩
theorem l9_spec : SpecD NF Tryz.prog 92 l9C := by
  refine rd2 (mf := fun f => false) l9Tb_ok (fn := Tryz.f92) (by kernel_rfl) rfl (by kernel_rfl) (by kernel_rfl) ?_
  rintro l mo ⟨⟨hl, hb⟩, hmo⟩
  have hmo : mo ≤ 200 := hmo
  generalize hr : l9R l mo = r
  show awp _ _ _ _ (start _ ([.sl 4 (l.map EV.e), .lit (.int .i64 mo)].map .dat) []) (endK _ _ _ ([.sl 6 (r.1.map vN), D.lit (.bool r.2)].map .dat) [])
  simp only [Tryz.f92]
  by_cases h30 : mo < l.length
  · have e : r = ([], false) := by rw [← hr]; unfold l9R; rw [if_pos h30]
    subst e
    simp [-D.isLit, h30]
  have h30'' : (l.length : Int) ≤ mo := by omega
  have e : r = (l.takeWhile okV, l.all okV) := by rw [← hr]; unfold l9R; rw [if_neg h30]
  simp [-D.isLit, h30, h30'']
  refine loop_go (fun n st => ∃ p q, l = p ++ q ∧ n = q.length ∧ (∀ y ∈ p, okV y = true) ∧ st = l9S l p) (s0 := l9S l []) (n := l.length) (snd_of (by simp [LeT, l9S]) (by simp [l9S])) ⟨[], l, rfl, rfl, by simp, rfl⟩ ?_
  rintro n st ⟨p, q, rfl, rfl, hp, rfl⟩ KN hN
  cases q with
  | nil =>
    have e' : r = (p, true) := by
      rw [e, List.append_nil]
      refine Prod.ext ?_ (List.all_eq_true.2 hp)
      have := List.takeWhile_append_of_pos (l₁ := p) (l₂ := []) hp
      rw [List.append_nil] at this
      simpa using this
    subst e'
    simp [-D.isLit, l9S]
  | cons v q =>
    obtain ⟨⟨a, b⟩, c, d⟩ := v
    obtain ⟨⟨i1, i2⟩, i3, i4⟩ := hb ((a, b), c, d) (by simp)
    have i1 : I64 a := i1
    have i2 : I64 b := i2
    have i3 : I64 c := i3
    have i4 : I64 d := i4
    have e1 : ix (p.map EV.e ++ .agg [eQ a b, eQ c d] :: q.map EV.e) p.length = some (.agg [eQ a b, eQ c d]) := ix_mem (by simp)
    have w1 : IntKind.i64.wrap ((p.length : Int) + 1) = (p.length : Int) + 1 := i64_id _ (by omega) (by simp at hl; omega)
    have e4 : (p.length : Int) < p.length + (q.length + 1) := by omega
    by_cases hok : qOk a b ∧ qOk c d
    · have y1 := (qOk_64 hok.1).2.2
      have y2 := (qOk_64 hok.2).2.2
      simp [-D.isLit, l9S, e1, e4, w1, i1, i2, i3, i4, hok.1, hok.2, y1, y2]
      have hp30 : p.length ≤ 200 := by simp at h30; omega
      have hp31 : (p.length + 1) * 80 ≤ 140737488355328 := by omega
      have hp32 : p.length + 1 ≤ maxLen := by unfold maxLen; omega
      refine ⟨⟨hp31, hp32⟩, hN _ (nx (m := q.length) (s'' := l9S (p ++ ((a, b), c, d) :: q) (p ++ [((a, b), c, d)])) (snd_obs (n := 36) [(8, 34, .row 6 83 ((p ++ [((a, b), c, d)]).map vN))] rfl (by simp [vN]) (by simp [l9S])) ⟨p ++ [((a, b), c, d)], q, by simp, rfl, fun y hy => ?_, rfl⟩ (by simp))⟩
      rcases List.mem_append.1 hy with hy | hy
      · exact hp y hy
      · rw [List.mem_singleton.1 hy]; exact decide_eq_true hok
    · have e' : r = (p, false) := by
        have hv : okV ((a, b), c, d) = false := decide_eq_false hok
        rw [e]
        refine Prod.ext ?_ ?_
        · show List.takeWhile okV (p ++ _ :: q) = p
          rw [List.takeWhile_append_of_pos hp, List.takeWhile_cons, if_neg (by rw [hv]; simp), List.append_nil]
        · show List.all (p ++ _ :: q) okV = false
          rw [List.all_append, List.all_cons, hv, Bool.false_and, Bool.and_false]
      subst e'
      have hok' : (decide (qOk a b) && decide (qOk c d)) = false := by rw [← Bool.decide_and]; exact decide_eq_false hok
      simp [-D.isLit, l9S, e1, e4, w1, i1, i2, i3, i4, hok']
theorem l9_ok : callable Tryz.prog 92 = true := by kernel_rfl
/-! s.Farthest -/
noncomputable def sFarTb : List (FuncId × Ct) := [(92, .data l9C), (63, .data l3SubC), (65, .data l3DotC), (71, .data nCmpC), (64, .data nQC)]
theorem sFarTb_ok : TbOK NF Tryz.prog (tbl sFarTb) := tbl_cons (c := .data l9C) l9_spec l9_ok (tbl_cons (c := .data l3SubC) l3Sub_spec l3Sub_ok (tbl_cons (c := .data l3DotC) l3Dot_spec l3Dot_ok (tbl_cons (c := .data nCmpC) nCmp_spec l1rCmp_ok (tbl_cons (c := .data nQC) nQ_spec l1rQ_ok tbl_nil))))

@[simp] theorem sFarTb1 : tbl sFarTb 92 = some (.data l9C) := rfl
@[simp] theorem sFarTb2 : tbl sFarTb 63 = some (.data l3SubC) := rfl
@[simp] theorem sFarTb3 : tbl sFarTb 65 = some (.data l3DotC) := rfl
@[simp] theorem sFarTb4 : tbl sFarTb 71 = some (.data nCmpC) := rfl
@[simp] theorem sFarTb5 : tbl sFarTb 64 = some (.data nQC) := rfl
def sFarS (l : List ((Int × Int) × Int × Int)) (p : Nat × Nat) (g : D) (i : Nat) : St := ⟨[.any, .any, .any, .any, .obj 4 [] 0, .any, .dat (.sl 6 (l.map vN)), .any, .dat (.lit (.int .i64 p.1)), .dat (.lit (.int .i64 p.2)), .obj 10 [] 0, .dat (.lit (.int .i64 i)), .any, .any, .any, .any, .any, .any, .any, .any, .any, .any, .any, .any, .any, .any, .any, .any, .any, .any, .any, .any, .any, .any, .any, .any, .any, .any, .any, .any, .any, .any, .any, .any, .any, .any, .any, .any, .any, .any, .any, .any, .any, .any, .any, .any, .any, .any, .any, .any, .any, .any, .any, .any, .any, .any, .any, .any, .any, .any, .any, .any, .any, .any, .any, .any, .any, .any, .any], [none, none, none, none, some (.box zQ), none, none, none, none, none, some (.box g), none, none, none, none, none, none, none, none, none, none, none, none, none, none, none, none, none, none, none, none, none, none, none, none, none, none, none, none, none, none, none, none, none, none, none, none, none, none, none, none, none, none, none, none, none, none, none, none, none, none, none, none, none, none, none, none, none, none, none, none, none, none, none, none, none, none, none, none]⟩
def sFarS2 (l : List ((Int × Int) × Int × Int)) (p : Nat × Nat) (g : D) (i j : Nat) : St := ⟨[.any, .any, .any, .any, .obj 4 [] 0, .any, .dat (.sl 6 (l.map vN)), .any, .dat (.lit (.int .i64 p.1)), .dat (.lit (.int .i64 p.2)), .obj 10 [] 0, .dat (.lit (.int .i64 i)), .dat (.lit (.int .i64 j)), .any, .any, .any, .any, .any, .any, .any, .any, .any, .any, .any, .any, .any, .any, .any, .any, .any, .any, .any, .any, .any, .any, .any, .any, .any, .any, .any, .any, .any, .any, .any, .any, .any, .any, .any, .any, .any, .any, .any, .any, .any, .any, .any, .any, .any, .any, .any, .any, .any, .any, .any, .any, .any, .any, .any, .any, .any, .any, .any, .any, .any, .any, .any, .any, .any, .any], [none, none, none, none, some (.box zQ), none, none, none, none, none, some (.box g), none, none, none, none, none, none, none, none, none, none, none, none, none, none, none, none, none, none, none, none, none, none, none, none, none, none, none, none, none, none, none, none, none, none, none, none, none, none, none, none, none, none, none, none, none, none, none, none, none, none, none, none, none, none, none, none, none, none, none, none, none, none, none, none, none, none, none, none]⟩
def fB (c : Nat × Nat) : Bool → Nat × Nat
  | true => c
  | false => (0, 0)
def fG (G : Nat → Nat → Rat) (c : Nat × Nat) : Bool → D
  | true => nD (G c.1 c.2)
  | false => zR
@[simp] theorem fG_size (G : Nat → Nat → Rat) (c : Nat × Nat) (b : Bool) : (fG G c b).size = 3 := by cases b <;> rfl
def seen0 (i m : Nat) : Bool := decide (i ≠ 0 ∨ m ≠ 0)
set_option maxRecDepth 100000 in
set_option maxHeartbeats 4000000 in
theorem sFar_spec : SpecD NF Tryz.prog 41 iFarC := by
  refine rd1 (mf := fun f => false) sFarTb_ok (fn := Tryz.f41) (by kernel_rfl) rfl (by kernel_rfl) (by kernel_rfl) ?_
  rintro l ⟨hl, hb⟩
  generalize hr : farI l = r
  show awp _ _ _ _ (start _ ([.sl 4 (l.map EV.e)].map .dat) []) (endK _ _ _ ((farT r).map .dat) [])
  simp only [Tryz.f41]
  have c1 := l9C_at l 200
  rw [eq_true (⟨⟨hl, hb⟩, by omega⟩ : (l.length < 4611686018427387904 ∧ ∀ v ∈ l, V64 v) ∧ (200 : Int) ≤ 200)] at c1
  by_cases h2 : (l9R l 200).2 = false
  · have e : r = (0, 0, (0, 0), false) := by
      rw [← hr]; unfold farI
      rw [if_neg (fun x => by
        unfold l9R at h2
        rw [if_neg (by have := x.2.1; omega)] at h2
        have h2 : (l.all fun u => decide (vOk u)) = false := h2
        have := x.2.2
        rw [h2] at this; cases this)]
    subst e
    rw [h2] at c1
    simp [-D.isLit, -l9C_at, c1, farT, eQ, i64D]
  have h2t : (l9R l 200).2 = true := by cases hh : (l9R l 200).2 <;> simp_all
  have h30 : ¬ (200 : Int) < l.length := fun h => by unfold l9R at h2t; rw [if_pos h] at h2t; cases h2t
  have hall : (l.all fun u => decide (vOk u)) = true := by unfold l9R at h2t; rw [if_neg h30] at h2t; exact h2t
  have hgd : ∀ x ∈ l, vOk x := fun x hx => of_decide_eq_true (List.all_eq_true.1 hall x hx)
  have h7 : (l9R l 200).1 = l := by
    unfold l9R; rw [if_neg h30]
    have := List.takeWhile_append_of_pos (p := okV) (l₁ := l) (l₂ := []) (fun y hy => decide_eq_true (hgd y hy))
    rw [List.append_nil] at this
    simpa using this
  rw [h2t, h7] at c1
  by_cases h1 : l.length < 2
  · have e : r = (0, 0, (0, 0), false) := by rw [← hr]; unfold farI; rw [if_neg (fun x => by have := x.1; omega)]
    subst e
    have h1' : (l.length : Int) < 2 := by omega
    simp [-D.isLit, -l9C_at, c1, h1', farT, eQ, i64D]
  have h1' : ¬ (l.length : Int) < 2 := by omega
  have h200 : l.length ≤ 200 := by omega
  have e : r = farO (fout (gP l) l.length l.length) (gP l (fout (gP l) l.length l.length).1 (fout (gP l) l.length l.length).2) := by
    rw [← hr]; unfold farI; rw [if_pos ⟨by omega, h200, hall⟩]
  have hGs := gP_sz hgd
  have hlt := fun i => fout_lt (G := gP l) (n := l.length) (by omega) i
  generalize hG : gP l = G at *
  simp [-D.isLit, -l9C_at, h1', c1]
  refine loop_go (fun n st => ∃ i, n = l.length - i ∧ i ≤ l.length ∧ st = sFarS l (fB (fout G l.length i) (seen0 i 0)) (fG G (fout G l.length i) (seen0 i 0)) i) (s0 := sFarS l (0, 0) zR 0) (n := l.length) (snd_of (by simp [LeT, sFarS]) (by simp [sFarS, zQ, zR])) ⟨0, rfl, Nat.zero_le _, rfl⟩ ?_
  rintro n st ⟨i, hn, hi, rfl⟩ KN hN
  by_cases h : i < l.length
  · have w1 : IntKind.i64.wrap ((i : Int) + 1) = (i : Int) + 1 := i64_id _ (by omega) (by omega)
    obtain ⟨a, b, c, d, m2, p2, n2⟩ := place_at (E := vN) h
    have p2 : ix (l.map vN) i = some (.agg [nD (Rat.divInt a b), nD (Rat.divInt c d)]) := p2
    have z3 : qsz (Rat.divInt a b) ≤ 2 ∧ qsz (Rat.divInt c d) ≤ 2 := vOk_sz (hgd _ n2)
    have hf := hlt i hi
    simp [-D.isLit, sFarS, h, w1]
    refine loop_go (fun n st => ∃ j m, j = i + 1 + m ∧ n = l.length - j ∧ j ≤ l.length ∧ st = sFarS2 l (fB (fin1 G i (fout G l.length i) m) (seen0 i m)) (fG G (fin1 G i (fout G l.length i) m) (seen0 i m)) i j) (s0 := sFarS2 l (fB (fout G l.length i) (seen0 i 0)) (fG G (fout G l.length i) (seen0 i 0)) i (i + 1)) (n := l.length - (i + 1)) (snd_of (by simp [LeT, sFarS2]) (by simp [sFarS2])) ⟨i + 1, 0, rfl, rfl, h, rfl⟩ ?_
    rintro n' st' ⟨j, m, hj, hn', hj', rfl⟩ KM hM
    have hfm := fin1_lt (G := G) (n := l.length) h hf.1 hf.2.1 hf.2.2 m (by omega)
    by_cases h' : j < l.length
    · obtain ⟨e, f, g, k, m3, p3, n3⟩ := place_at (E := vN) h'
      have p3 : ix (l.map vN) j = some (.agg [nD (Rat.divInt e f), nD (Rat.divInt g k)]) := p3
      have z4 : qsz (Rat.divInt e f) ≤ 2 ∧ qsz (Rat.divInt g k) ≤ 2 := vOk_sz (hgd _ n3)
      have w2 : IntKind.i64.wrap ((j : Int) + 1) = (j : Int) + 1 := i64_id _ (by omega) (by omega)
      have gij : dotQ (Rat.divInt a b - Rat.divInt e f) (Rat.divInt c d - Rat.divInt g k) (Rat.divInt a b - Rat.divInt e f) (Rat.divInt c d - Rat.divInt g k) = G i j := by rw [← hG]; exact (gP_at m2 m3).symm
      have t1 := qsz_sub (Rat.divInt a b) (Rat.divInt e f)
      have t2 := qsz_sub (Rat.divInt c d) (Rat.divInt g k)
      have s1 : qsz (Rat.divInt a b) + qsz (Rat.divInt c d) + qsz (Rat.divInt e f) + qsz (Rat.divInt g k) < LM := by rw [LM_val]; omega
      have s1' : qsz (Rat.divInt a b - Rat.divInt e f) + qsz (Rat.divInt c d - Rat.divInt g k) + qsz (Rat.divInt a b - Rat.divInt e f) + qsz (Rat.divInt c d - Rat.divInt g k) < LM := by rw [LM_val]; omega
      have s2 : qsz (G i j) + qsz (G (fin1 G i (fout G l.length i) m).1 (fin1 G i (fout G l.length i) m).2) < MX := by
        have := hGs i j
        have := hGs (fin1 G i (fout G l.length i) m).1 (fin1 G i (fout G l.length i) m).2
        rw [MX_val]; omega
      have eb : fin1 G i (fout G l.length i) (m + 1) = if 0 < qcmp (G i j) (G (fin1 G i (fout G l.length i) m).1 (fin1 G i (fout G l.length i) m).2) then (i, j) else fin1 G i (fout G l.length i) m := by subst hj; rfl
      have es : seen0 i (m + 1) = true := by simp [seen0]
      cases hs : seen0 i m with
      | false =>
        have h0 : i = 0 ∧ m = 0 := by simpa [seen0] using hs
        obtain ⟨rfl, rfl⟩ := h0
        have hj1 : j = 1 := by omega
        subst hj1
        have eb : fin1 G 0 (fout G l.length 0) (0 + 1) = (0, 1) := by
          rw [eb]; split <;> rfl
        have w0 : IntKind.i64.wrap 2 = 2 := by decide
        have h1i : (1 : Int) < l.length := by omega
        simp [-D.isLit, sFarS2, h, h', h1i, p2, p3, s1, s1', fB, fG, gij, w0]
        exact hM _ (nx (m := l.length - (1 + 1)) (s'' := sFarS2 l (fB (fin1 G 0 (fout G l.length 0) (0 + 1)) (seen0 0 (0 + 1))) (fG G (fin1 G 0 (fout G l.length 0) (0 + 1)) (seen0 0 (0 + 1))) 0 (1 + 1)) (snd_obs (n := 79) [(4, 4, .box zQ), (10, 10, .box (fG G (fin1 G 0 (fout G l.length 0) (0 + 1)) (seen0 0 (0 + 1))))] rfl (by simp [eb, es, fG]) (by simp [sFarS2, eb, es, fB])) ⟨1 + 1, 0 + 1, by omega, rfl, h', rfl⟩ (by omega))
      | true =>
        generalize fin1 G i (fout G l.length i) m = C at *
        have hC : ¬ ((C.2 : Nat) : Int) = 0 := by have := hfm.2.2; omega
        by_cases hc : 0 < qcmp (G i j) (G C.1 C.2)
        · rw [if_pos hc] at eb
          simp [-D.isLit, sFarS2, h, h', p2, p3, s1, s1', s2, fB, fG, gij, hc, hC, hfm.2.2, w2]
          exact hM _ (nx (m := l.length - (j + 1)) (s'' := sFarS2 l (fB (fin1 G i (fout G l.length i) (m + 1)) (seen0 i (m + 1))) (fG G (fin1 G i (fout G l.length i) (m + 1)) (seen0 i (m + 1))) i (j + 1)) (snd_obs (n := 79) [(4, 4, .box zQ), (10, 10, .box (fG G (fin1 G i (fout G l.length i) (m + 1)) (seen0 i (m + 1))))] rfl (by simp [eb, es, fG]) (by simp [sFarS2, eb, es, fB])) ⟨j + 1, m + 1, by omega, rfl, h', rfl⟩ (by omega))
        · rw [if_neg hc] at eb
          simp [-D.isLit, sFarS2, h, h', p2, p3, s1, s1', s2, fB, fG, gij, hc, hC, hfm.2.2, w2]
          exact hM _ (nx (m := l.length - (j + 1)) (s'' := sFarS2 l (fB (fin1 G i (fout G l.length i) (m + 1)) (seen0 i (m + 1))) (fG G (fin1 G i (fout G l.length i) (m + 1)) (seen0 i (m + 1))) i (j + 1)) (snd_obs (n := 79) [(4, 4, .box zQ), (10, 10, .box (fG G (fin1 G i (fout G l.length i) (m + 1)) (seen0 i (m + 1))))] rfl (by simp [eb, es, fG]) (by simp [sFarS2, eb, es, fB])) ⟨j + 1, m + 1, by omega, rfl, h', rfl⟩ (by omega))
    · have hjl : j = l.length := by omega
      have hm : m = l.length - (i + 1) := by omega
      have e1 : fin1 G i (fout G l.length i) m = fout G l.length (i + 1) := by rw [hm]; rfl
      have e2 : seen0 i m = seen0 (i + 1) 0 := by
        have : i ≠ 0 ∨ m ≠ 0 := by omega
        simp [seen0, this]
      rw [e1, e2]
      subst hjl
      simp [-D.isLit, sFarS2, w1]
      exact hN _ (nx (m := l.length - (i + 1)) (s'' := sFarS l (fB (fout G l.length (i + 1)) (seen0 (i + 1) 0)) (fG G (fout G l.length (i + 1)) (seen0 (i + 1) 0)) (i + 1)) (snd_of (by simp [LeT, sFarS]) (by simp [sFarS])) ⟨i + 1, rfl, h, rfl⟩ (by omega))
  · have hil : i = l.length := by omega
    subst hil
    have hsn : seen0 l.length 0 = true := by simp [seen0]; intro hh; rw [hh] at h1; simp at h1
    generalize fout G l.length l.length = C at *
    subst e
    cases hq : (oq (G C.1 C.2)).2.2
    · simp [-D.isLit, sFarS, fB, fG, hsn, farT, farO, hq, zQ, eQ, i64D]
    · simp [-D.isLit, sFarS, fB, fG, hsn, farT, farO, hq, zQ, eQ, i64D]
theorem sFar_ok : callable Tryz.prog 41 = true := by kernel_rfl

/-! l.FnExactFarthest -/
noncomputable def lwFarC := ct1 EVL (fun l => l.length ≤ 9223372036854775807 ∧ ∀ u ∈ l, V64 u) (fun l => [.lit (.bool true)])
theorem lwFarC_at (l : List ((Int × Int) × Int × Int)) : lwFarC [.sl 4 (l.map EV.e)] = ((l.length ≤ 9223372036854775807 ∧ ∀ u ∈ l, V64 u), [.lit (.bool true)]) := ct1_at (A := EVL) l
noncomputable def lwFarTb : List (FuncId × Ct) := [(26, .data szVSC), (28, .data toVSC), (42, .data iFarC), (41, .data iFarC), (23, .data eqQC), (30, .data eqVSC)]
theorem lwFarTb_ok : TbOK NF Tryz.prog (tbl lwFarTb) := tbl_cons (c := .data szVSC) szVS_spec szVS_ok (tbl_cons (c := .data toVSC) toVS_spec toVS_ok (tbl_cons (c := .data iFarC) iFar_spec iFar_ok (tbl_cons (c := .data iFarC) sFar_spec sFar_ok (tbl_cons (c := .data eqQC) eqQ_spec eqQ_ok (tbl_cons (c := .data eqVSC) eqVS_spec eqVS_ok tbl_nil)))))

@[simp] theorem lwFarTb1 : tbl lwFarTb 26 = some (.data szVSC) := rfl
@[simp] theorem lwFarTb2 : tbl lwFarTb 28 = some (.data toVSC) := rfl
@[simp] theorem lwFarTb3 : tbl lwFarTb 42 = some (.data iFarC) := rfl
@[simp] theorem lwFarTb4 : tbl lwFarTb 41 = some (.data iFarC) := rfl
@[simp] theorem lwFarTb5 : tbl lwFarTb 23 = some (.data eqQC) := rfl
@[simp] theorem lwFarTb6 : tbl lwFarTb 30 = some (.data eqVSC) := rfl
set_option maxRecDepth 100000 in
theorem lwFar_spec : SpecD NF Tryz.prog 11 lwFarC := by
  refine rd1 (mf := fun f => false) lwFarTb_ok (fn := Tryz.f11) (by kernel_rfl) rfl (by kernel_rfl) (by kernel_rfl) ?_
  rintro l ⟨hl, hb⟩
  show awp _ _ _ _ (start _ ([.sl 4 (l.map EV.e)].map .dat) []) (endK _ _ _ ([D.lit (.bool true)].map .dat) [])
  by_cases h : (1048576 : Int) < l.length
  · simp [-D.isLit, -iFarC_at, Tryz.f11, hl, h]
  · have h' : ¬ (1048576 : Int) - l.length < 0 := by omega
    have h'' : l.length < 4194304 := by omega
    have h3 : l.length < 4611686018427387904 := by omega
    have c1 := iFarC_at l
    rw [eq_true (⟨h3, hb⟩ : l.length < 4611686018427387904 ∧ ∀ u ∈ l, V64 u)] at c1
    generalize farI l = r at c1
    simp [-D.isLit, -iFarC_at, Tryz.f11, c1, hl, h, h', h'', h3, farT]
theorem lwFar_ok : callable Tryz.prog 11 = true := by kernel_rfl
set_option maxRecDepth 100000 in
theorem lwFarthest_calls {d0 : D} (s0 : shp Tryz.prog 8 46 d0) {v0 : Value} {w : World} (hrep : RepVs NF (fun b => b < w.heap.size) w [d0] [v0]) :
    Calls Tryz.prog 11 #[v0] w fun e w' => e = .returned (.bool true) ∧ Below w.heap.size w w' := by
  obtain ⟨l, rfl, hl, hb⟩ := shp_lVS (n := 4) s0
  have hl' : l.length ≤ 9223372036854775807 := lt_maxLen hl
  exact law_callsM lwFar_spec (ds := [.sl 4 (l.map EV.e)]) (by rw [lwFarC_at]; exact ⟨hl', hb⟩) (by rw [lwFarC_at]; rfl) (vs := [v0]) hrep
end Go.Proofs.YtlniifhdimaliaaGreat.Ae
