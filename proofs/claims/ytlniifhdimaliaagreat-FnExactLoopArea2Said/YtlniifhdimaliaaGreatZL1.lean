/- Texts put together, in the order in which they build: R1, R2, R3, T9, T18, T19. No condition. -/
import Derived.Test.YtlniifhdimaliaaGreatZ5
import Derived.OpenShut
import Derived.ChangeArms
import Derived.WideShapes
set_option linter.unusedVariables false
set_option linter.unusedSimpArgs false
/-! What is handed to a law, read as data: from the walk over a value in memory. No condition. -/
namespace Go.Proofs.YtlniifhdimaliaaGreat.Ae
open Go

/-- Data of a type. -/
def shp (P : Program) : Nat → TypeId → D → Prop
  | 0, _, _ => False
  | n + 1, t, d => match P.underlying t with
    | some .bool => ∃ b, d = .lit (.bool b)
    | some (.int k) => ∃ x, d = .lit (.int k x) ∧ (Lit.int k x).wf = true
    | some .string => ∃ s : ByteArray, d = .lit (.string s) ∧ s.size ≤ maxLen
    | some (.struct fs) => ∃ ds, d = .agg ds ∧ ds.length = fs.toList.length ∧ ∀ (i : Nat) (f : Field) (x : D), fs.toList[i]? = some f → ds[i]? = some x → shp P n f.type x
    | some (.slice e) => ∃ xs, d = .sl (P.cellsOf e) xs ∧ xs.length ≤ maxLen ∧ ∀ x ∈ xs, shp P n e x
    | _ => False
/-- A struct's fields lie one behind another. -/
def layF (P : Program) : List Field → Nat → Nat → Bool
  | [], o, c => o == c
  | f :: fs, o, c => f.offset == o && layF P fs (o + P.cellsOf f.type) c
def layT (P : Program) : Nat → TypeId → Bool
  | 0, _ => false
  | n + 1, t => match P.underlying t with
    | some .bool | some (.int _) | some .string => true
    | some (.struct fs) => layF P fs.toList 0 (P.cellsOf t) && fs.toList.all fun f => layT P n f.type
    | some (.slice e) => Nat.blt 0 (P.cellsOf e) && layT P n e
    | _ => false

theorem list_of {α : Type} {p : Nat → α → Prop} : ∀ n : Nat, (∀ i, i < n → ∃ d, p i d) → ∃ l : List α, l.length = n ∧ ∀ (i : Nat) (d : α), l[i]? = some d → p i d
  | 0, _ => ⟨[], rfl, fun i d h => by simp at h⟩
  | n + 1, h => by
    obtain ⟨d0, h0⟩ := h 0 (by omega)
    obtain ⟨l, hl, hp⟩ := list_of (p := fun i => p (i + 1)) n (fun i hi => h (i + 1) (by omega))
    refine ⟨d0 :: l, by simp [hl], fun i d hd => ?_⟩
    cases i with
    | zero => simp at hd; subst hd; exact h0
    | succ i => exact hp i d (by simpa using hd)
theorem fields_rep {N : NR} {F : Nat → Prop} {w : World} {P : Program} {n : Nat} : ∀ (l : List Field) (o c : Nat) (cs : List Value), layF P l o c = true → cs.length = c - o → o ≤ c →
    (∀ (i : Nat) (f : Field), l[i]? = some f → ∃ d, Rep N F w d ((cs.drop (f.offset - o)).take (P.cellsOf f.type)) ∧ shp P n f.type d ∧ ((cs.drop (f.offset - o)).take (P.cellsOf f.type)).length = P.cellsOf f.type) →
    ∃ (ds : List D) (css : List (List Value)), css.flatten = cs ∧ css.length = ds.length ∧ ds.length = l.length ∧ (∀ (i : Nat) (d : D) (x : List Value), ds[i]? = some d → css[i]? = some x → Rep N F w d x) ∧ ∀ (i : Nat) (f : Field) (x : D), l[i]? = some f → ds[i]? = some x → shp P n f.type x
  | [], o, c, cs, hl, hc, ho, h => by
    simp only [layF, beq_iff_eq] at hl
    subst hl
    rw [Nat.sub_self] at hc
    exact ⟨[], [], (List.eq_nil_of_length_eq_zero hc).symm, rfl, rfl, fun i d x h => by simp at h, fun i f x h => by simp at h⟩
  | f :: l, o, c, cs, hl, hc, ho, h => by
    simp only [layF, Bool.and_eq_true, beq_iff_eq] at hl
    obtain ⟨rfl, hl⟩ := hl
    obtain ⟨d0, r0, s0, e0⟩ := h 0 f rfl
    rw [Nat.sub_self, List.drop_zero] at r0 e0
    have hle : P.cellsOf f.type ≤ cs.length := by
      have := List.length_take_le (P.cellsOf f.type) cs
      rw [List.length_take] at e0
      omega
    have mono : ∀ (l : List Field) (o : Nat), layF P l o c = true → o ≤ c ∧ ∀ g ∈ l, o ≤ g.offset := by
      intro l
      induction l with
      | nil => intro o h; simp only [layF, beq_iff_eq] at h; exact ⟨by omega, fun g hg => by simp at hg⟩
      | cons g l ih =>
        intro o h
        simp only [layF, Bool.and_eq_true, beq_iff_eq] at h
        obtain ⟨i1, i2⟩ := ih _ h.2
        refine ⟨by omega, fun g' hg => ?_⟩
        rcases List.mem_cons.1 hg with rfl | hg
        · omega
        · have := i2 g' hg; omega
    have mo := mono l _ hl
    obtain ⟨ds, css, h1, h2, h3, h4, h5⟩ := fields_rep l (f.offset + P.cellsOf f.type) c (cs.drop (P.cellsOf f.type)) hl (by rw [List.length_drop, hc]; omega) mo.1 (fun i g hg => by
      obtain ⟨d, r, s, e⟩ := h (i + 1) g (by simpa using hg)
      have hgo := mo.2 g (List.mem_of_getElem? hg)
      rw [List.drop_drop]
      have e1 : P.cellsOf f.type + (g.offset - (f.offset + P.cellsOf f.type)) = g.offset - f.offset := by omega
      rw [e1]
      exact ⟨d, r, s, e⟩)
    refine ⟨d0 :: ds, cs.take (P.cellsOf f.type) :: css, by rw [List.flatten_cons, h1, List.take_append_drop], by simp [h2], by simp [h3], fun i d x hd hx => ?_, fun i g x hg hx => ?_⟩
    · cases i with
      | zero => simp at hd hx; subst hd hx; exact r0
      | succ i => exact h4 i d x (by simpa using hd) (by simpa using hx)
    · cases i with
      | zero => simp at hg hx; subst hg hx; exact s0
      | succ i => exact h5 i g x (by simpa using hg) (by simpa using hx)

theorem layF_in {P : Program} {c : Nat} : ∀ (l : List Field) (o : Nat), layF P l o c = true → o ≤ c ∧ ∀ f ∈ l, f.offset + P.cellsOf f.type ≤ c
  | [], o, h => by simp only [layF, beq_iff_eq] at h; exact ⟨by omega, fun f hf => by simp at hf⟩
  | g :: l, o, h => by
    simp only [layF, Bool.and_eq_true, beq_iff_eq] at h
    obtain ⟨i1, i2⟩ := layF_in l _ h.2
    refine ⟨by omega, fun f hf => ?_⟩
    rcases List.mem_cons.1 hf with rfl | hf
    · omega
    · exact i2 f hf
theorem trod_cells {P : Program} {l : List Field} {c i : Nat} {f : Field} {cs : List Value} (hl : layF P l 0 c = true) (hlen : cs.length = c) (hi : l[i]? = some f) : ((cs.drop f.offset).take (P.cellsOf f.type)).length = P.cellsOf f.type := by
  have := (layF_in l 0 hl).2 f (List.mem_of_getElem? hi)
  rw [List.length_take, List.length_drop]
  omega
/-- What is walked over can be read as data. -/
theorem rep_of_trod {N : NR} {F : Nat → Prop} {H : Type} {enc : TypeId × Value → H} {P : Program} {w : World} {base : Nat} {sp : Nat → Bool} {held : Bool} (hF : ∀ b, base ≤ b → b < w.heap.size → F b) :
    ∀ (n : Nat) {m : Nat} {t : TypeId} {cs : List Value} {x : DataW H × List MemPlace}, layT P n t = true → DataW.trod enc P w base sp held m t cs = some x → ∃ d, Rep N F w d cs ∧ shp P n t d
  | 0, m, t, cs, x, hl, h => by simp [layT] at hl
  | n + 1, m, t, cs, x, hl, h => by
    simp only [layT] at hl
    simp only [shp]
    split at hl
    · rename_i hu
      obtain ⟨b, rfl, _⟩ := DataW.trod_bool hu h
      exact ⟨_, .lit rfl, by exact ⟨b, rfl⟩⟩
    · rename_i k hu
      obtain ⟨b, rfl, _, hw⟩ := DataW.trod_int hu h
      exact ⟨_, .lit rfl, by exact ⟨b, rfl, hw⟩⟩
    · rename_i hu
      obtain ⟨b, rfl, _, hw⟩ := DataW.trod_string hu h
      exact ⟨_, .lit rfl, by exact ⟨b, rfl, hw⟩⟩
    · rename_i fs hu
      obtain ⟨xs, m', _, _, hlen, hxs, hf⟩ := DataW.trod_struct hu h
      rw [Bool.and_eq_true] at hl
      obtain ⟨ds, css, h1, h2, h3, h4, h5⟩ := fields_rep (N := N) (F := F) (w := w) (n := n) fs.toList 0 (P.cellsOf t) cs hl.1 (by omega) (by omega) (fun i f hfi => by
        have hi : fs[i]? = some f := by simpa using hfi
        have hlt : i < xs.length := by rw [hxs]; exact (Array.getElem?_eq_some_iff.1 hi).1
        have hx := hf i f hi
        rw [List.getElem?_eq_getElem hlt] at hx
        obtain ⟨d, r, s⟩ := rep_of_trod hF n (List.all_eq_true.1 hl.2 f (List.mem_of_getElem? hfi)) hx
        exact ⟨d, by simpa using r, s, by
          rw [Nat.sub_zero]
          exact trod_cells hl.1 hlen hfi⟩)
      subst h1
      exact ⟨.agg ds, .agg h2 h4, by exact ⟨ds, rfl, h3, h5⟩⟩
    · rename_i e hu
      rw [Bool.and_eq_true, Nat.blt_eq] at hl
      rcases DataW.trod_slice hu h with ⟨rfl, _⟩ | ⟨a, len, cap, elems, rest, m', _, rfl, _, hb, hlc, hcm, hel, hget, _, _⟩
      · exact ⟨.sl (P.cellsOf e) [], .sl none 0 (fun _ => []) (by simp) (by simp) (fun h => by simp at h) (fun i d h => by simp at h), by exact ⟨[], rfl, by simp, fun x hx => by simp at hx⟩⟩
      · have key : ∀ i, i < len → ∃ es, w.cells? base (a.add (i * P.cellsOf e)) (P.cellsOf e) = some es ∧ ∃ d, Rep N F w d es ∧ shp P n e d := by
          intro i hi
          have := hget i hi
          rw [List.getElem?_eq_getElem (by omega)] at this
          obtain ⟨es, h1, h2⟩ := Option.bind_eq_some_iff.1 this
          exact ⟨es, h1, rep_of_trod hF n hl.2 h2⟩
        obtain ⟨xs, hx1, hx2⟩ := list_of (p := fun i d => Rep N F w d ((w.cells? base (a.add (i * P.cellsOf e)) (P.cellsOf e)).getD []) ∧ shp P n e d) len (fun i hi => by
          obtain ⟨es, h1, d, h2, h3⟩ := key i hi
          exact ⟨d, by rw [h1]; exact h2, h3⟩)
        have hsl : Rep N F w (.sl (P.cellsOf e) xs) [.slice (some a) xs.length cap] := by
          refine .sl (some a) cap (fun i => (w.cells? base (a.add (i * P.cellsOf e)) (P.cellsOf e)).getD []) (by omega) hcm (fun hp => ?_) (fun i d hd => (hx2 i d hd).1)
          obtain ⟨es0, h0, _⟩ := key 0 (by omega)
          obtain ⟨_, l0, c0⟩ := World.cells?_some h0
          have c00 := c0 0 hl.1
          have ha0 : ∀ k, (a.add k).block = a.block := by intro k; unfold Addr.add; split <;> rfl
          have hv : ∃ v, w.cell? a = some v := by
            have : (a.add (0 * P.cellsOf e)).add 0 = a := by simp [Addr.add]
            rw [this] at c00
            rw [c00]
            exact ⟨_, List.getElem?_eq_getElem (by omega)⟩
          obtain ⟨v, hv⟩ := hv
          have hspot : a.spot = none ∧ a.block < w.heap.size := by
            unfold World.cell? at hv
            cases hh : w.heap[a.block]? with
            | none => rw [hh] at hv; simp at hv
            | some ob =>
              refine ⟨?_, (Array.getElem?_eq_some_iff.1 hh).1⟩
              rw [hh] at hv
              cases ob <;> simp at hv
              exact hv.1
          have hae : a = ⟨a.block, a.off, none⟩ := by rw [← hspot.1]
          refine ⟨a.block, a.off, by rw [← hae], hF _ hb hspot.2, fun i hi => ?_⟩
          obtain ⟨es, h1, _⟩ := key i (by omega)
          obtain ⟨_, l1, c1⟩ := World.cells?_some h1
          rw [h1, Option.getD_some]
          refine ⟨l1, fun j v hj => ?_⟩
          have hj' : j < P.cellsOf e := by have := (List.getElem?_eq_some_iff.1 hj).1; omega
          have := c1 j hj'
          rw [hj] at this
          rw [← this]
          congr 1
          rw [hae]
          unfold Addr.add
          by_cases z1 : i * P.cellsOf e = 0 <;> by_cases z2 : j = 0 <;> simp [z1, z2] <;> omega
        rw [hx1] at hsl
        exact ⟨.sl (P.cellsOf e) xs, hsl, by exact ⟨xs, rfl, by omega, fun x hx => by
          obtain ⟨i, hi⟩ := List.getElem?_of_mem hx
          exact (hx2 i x hi).2⟩⟩
    · simp at hl
end Go.Proofs.YtlniifhdimaliaaGreat.Ae

/-! A law's call with whatever is handed to it, from its contract; values handed to a law, read as data. No condition. -/
namespace Go.Proofs.YtlniifhdimaliaaGreat.Ae
open Go Go.RowKit Go.WideShapes

/-- A law's call, its arguments lying in memory. -/
theorem law_callsM {f : FuncId} {g : List D → Prop × List D} (h : SpecD NF Tryz.prog f g) {ds : List D} (hp : (g ds).1) (hr : (g ds).2 = [boolD true]) {vs : List Value} {w : World} (hrep : RepVs NF (fun b => b < w.heap.size) w ds vs) :
    Calls Tryz.prog f vs.toArray w fun e w' => e = .returned (.bool true) ∧ Below w.heap.size w w' := by
  refine (h ds hp (fun b => b < w.heap.size) w vs (fun k hk => hk) hrep).mono fun e w' ⟨v, he, hv, hfr⟩ => ?_
  rw [hr] at hv
  have hv : RepV NF _ w' (.lit (.bool true)) v := hv
  obtain ⟨rfl, _⟩ := RepV.lit hv
  exact ⟨he, ⟨hfr.os, hfr.tape, hfr.output, hfr.size, fun k hk => hfr.block k hk (fun h => h)⟩⟩
theorem repV_ok {F : Nat → Prop} {H : Type} {enc : TypeId × Value → H} {P : Program} {w : World} {base : Nat} {sp : Nat → Bool} {held : Bool} (hF : ∀ b, base ≤ b → b < w.heap.size → F b)
    {n : Nat} {t : TypeId} {v : Value} {r : Reach} {b0 : Nat} {x : DataW H × List MemPlace} (hl : layT P n t = true) (hv : Value.okWide P w r b0 t v) {m : Nat} (h : DataW.trod enc P w base sp held m t v.cells.toList = some x) :
    ∃ d, RepV NF F w d v ∧ shp P n t d := by
  obtain ⟨d, hr, hs⟩ := rep_of_trod (N := NF) (F := F) hF n hl h
  refine ⟨d, ?_, hs⟩
  cases n with
  | zero => simp [layT] at hl
  | succ n =>
    simp only [layT] at hl
    simp only [shp] at hs
    have one : d.isAgg = false → v.cells = #[v] → RepV NF F w d v := fun h1 h2 => ⟨[v], by rw [h2] at hr; exact hr, by unfold mkV; rw [h1]; rfl⟩
    split at hl
    · rename_i hu
      rw [hu] at hs
      obtain ⟨b, rfl⟩ := okWide_bool hu hv
      obtain ⟨c, rfl⟩ := hs
      exact one rfl rfl
    · rename_i k hu
      rw [hu] at hs
      obtain ⟨b, rfl⟩ := okWide_int hu hv
      obtain ⟨c, rfl, _⟩ := hs
      exact one rfl rfl
    · rename_i hu
      rw [hu] at hs
      obtain ⟨b, rfl⟩ := okWide_string hu hv
      obtain ⟨c, rfl, _⟩ := hs
      exact one rfl rfl
    · rename_i fs hu
      rw [hu] at hs
      obtain ⟨cs, rfl, _⟩ := okWide_struct hu hv
      obtain ⟨ds, rfl, _⟩ := hs
      exact ⟨cs.toList, by simpa [Value.cells] using hr, by unfold mkV; simp [D.isAgg]⟩
    · rename_i e hu
      rw [hu] at hs
      obtain ⟨a, len, cap, rfl⟩ := okWide_slice hu hv
      obtain ⟨ds, rfl, _⟩ := hs
      exact one rfl rfl
    · simp at hl
end Go.Proofs.YtlniifhdimaliaaGreat.Ae

/-! Lists of places, handed to a law. No condition. -/
namespace Go.Proofs.YtlniifhdimaliaaGreat.Ae
open Go Go.RowKit Go.Proofs.YtlniifhdimaliaaGreat.Dig

theorem shp_i64 {P : Program} {n : Nat} {t : TypeId} {d : D} (hu : P.underlying t = some (.int .i64)) (h : shp P (n + 1) t d) : ∃ x, d = .lit (.int .i64 x) ∧ I64 x := by
  simp only [shp, hu] at h
  obtain ⟨x, rfl, hw⟩ := h
  exact ⟨x, rfl, bounds_i64 hw⟩
theorem shp_two {P : Program} {n : Nat} {t : TypeId} {f g : Field} {d : D} (hu : P.underlying t = some (.struct #[f, g])) (h : shp P (n + 1) t d) : ∃ x y, d = .agg [x, y] ∧ shp P n f.type x ∧ shp P n g.type y := by
  simp only [shp, hu] at h
  obtain ⟨ds, rfl, hl, hf⟩ := h
  match ds, hl with
  | [x, y], _ => exact ⟨x, y, rfl, hf 0 f x rfl rfl, hf 1 g y rfl rfl⟩
theorem shp_sl {P : Program} {n : Nat} {t e : TypeId} {d : D} (hu : P.underlying t = some (.slice e)) (h : shp P (n + 1) t d) : ∃ xs, d = .sl (P.cellsOf e) xs ∧ xs.length ≤ maxLen ∧ ∀ x ∈ xs, shp P n e x := by
  simp only [shp, hu] at h
  exact h
theorem list_map {α : Type} {E : α → D} {p : α → Prop} : ∀ {xs : List D}, (∀ x ∈ xs, ∃ v, x = E v ∧ p v) → ∃ l : List α, xs = l.map E ∧ ∀ v ∈ l, p v
  | [], _ => ⟨[], rfl, fun v h => by simp at h⟩
  | x :: xs, h => by
    obtain ⟨v, e, hv⟩ := h x List.mem_cons_self
    obtain ⟨l, el, hl⟩ := list_map (xs := xs) (fun y hy => h y (List.mem_cons_of_mem _ hy))
    exact ⟨v :: l, by rw [e, el]; rfl, fun u hu => by
      rcases List.mem_cons.1 hu with rfl | hu
      · exact hv
      · exact hl u hu⟩
set_option maxRecDepth 100000 in
theorem shp_lQ {n : Nat} {d : D} (h : shp Tryz.prog (n + 2) 23 d) : ∃ p : Int × Int, d = eQ p.1 p.2 ∧ I64 p.1 ∧ I64 p.2 := by
  obtain ⟨x, y, rfl, hx, hy⟩ := shp_two (P := Tryz.prog) (n := n + 1) (t := 23) (d := d) Tryz.underlying23 h
  obtain ⟨a, rfl, ha⟩ := shp_i64 Tryz.underlying2 hx
  obtain ⟨b, rfl, hb⟩ := shp_i64 Tryz.underlying2 hy
  exact ⟨(a, b), rfl, ha, hb⟩
set_option maxRecDepth 100000 in
theorem shp_lV {n : Nat} {d : D} (h : shp Tryz.prog (n + 3) 25 d) : ∃ v, d = EV.e v ∧ V64 v := by
  obtain ⟨x, y, rfl, hx, hy⟩ := shp_two (P := Tryz.prog) (n := n + 2) (t := 25) (d := d) Tryz.underlying25 h
  obtain ⟨a, rfl, ha⟩ := shp_lQ hx
  obtain ⟨b, rfl, hb⟩ := shp_lQ hy
  exact ⟨(a, b), rfl, ha, hb⟩
/-- A list of places. -/
def EVL : Enc (List ((Int × Int) × Int × Int)) := EV.list 4
@[simp] theorem EVL_e (l : List ((Int × Int) × Int × Int)) : EVL.e l = .sl 4 (l.map EV.e) := rfl
set_option maxRecDepth 100000 in
theorem shp_lVS {n : Nat} {d : D} (h : shp Tryz.prog (n + 4) 46 d) : ∃ l, d = EVL.e l ∧ l.length ≤ maxLen ∧ ∀ v ∈ l, V64 v := by
  obtain ⟨xs, rfl, hl, hx⟩ := shp_sl (P := Tryz.prog) (n := n + 3) (t := 46) (d := d) Tryz.underlying46 h
  obtain ⟨l, rfl, hp⟩ := list_map (E := EV.e) (p := V64) (fun x hx' => shp_lV (hx x hx'))
  exact ⟨l, by simp, by simpa using hl, hp⟩
theorem ix_mem {A B : List D} {x : D} {k : Nat} (h : A.length = k) : ix (A ++ x :: B) k = some x := by
  unfold ix; rw [← h, List.getElem?_append_right (Nat.le_refl _), Nat.sub_self]; rfl
theorem lset_mem {A B : List D} {x y : D} {k : Nat} (h : A.length = k) : lset (A ++ x :: B) k y = A ++ y :: B := by
  unfold lset; rw [← h, List.set_append_right _ _ (Nat.le_refl _), Nat.sub_self]; rfl
end Go.Proofs.YtlniifhdimaliaaGreat.Ae

/-! Lists of places: allV, toVS, szVS, eqVS. No condition. -/
namespace Go.Proofs.YtlniifhdimaliaaGreat.Ae
open Go Go.RowKit Go.Proofs.YtlniifhdimaliaaGreat.Dig

/-! i.allV -/
noncomputable def allVC := ct1 EVL (fun l => l.length < 4611686018427387904 ∧ ∀ v ∈ l, V64 v) (fun l => [.lit (.bool (l.all fun v => decide (vOk v)))])
@[simp] theorem allVC_at (l : List ((Int × Int) × Int × Int)) : allVC [.sl 4 (l.map EV.e)] = ((l.length < 4611686018427387904 ∧ ∀ v ∈ l, V64 v), [.lit (.bool (l.all fun v => decide (vOk v)))]) := ct1_at (A := EVL) l
noncomputable def allVTb : List (FuncId × Ct) := [(48, .data iVOkC)]
theorem allVTb_ok {N : NR} : TbOK N Tryz.prog (tbl allVTb) := tbl_cons (c := .data iVOkC) iVOk_spec iVOk_ok tbl_nil

@[simp] theorem allVTb1 : tbl allVTb 48 = some (.data iVOkC) := rfl
def allVS (l : List ((Int × Int) × Int × Int)) (k : Nat) : St := ⟨[.any, .any, .any, .any, .any, .dat (.sl 4 (l.map EV.e)), .dat (.lit (.int .i64 l.length)), .dat (.lit (.int .i64 k)), .any, .any, .any, .any, .any, .any, .any], [none, none, none, none, none, none, none, none, none, none, none, none, none, none, none]⟩
theorem allV_spec {N : NR} : SpecD N Tryz.prog 72 allVC := by
  refine rd1 (mf := fun f => false) allVTb_ok (fn := Tryz.f72) (by kernel_rfl) rfl (by kernel_rfl) (by kernel_rfl) ?_
  rintro l ⟨hl, hb⟩
  generalize hr : (l.all fun v => decide (vOk v)) = r
  show awp _ _ _ _ (start _ ([.sl 4 (l.map EV.e)].map .dat) []) (endK _ _ _ ([D.lit (.bool r)].map .dat) [])
  simp only [Tryz.f72]
  simp
  refine loop_go (fun n st => ∃ k, n = l.length - k ∧ k ≤ l.length ∧ (∀ y ∈ l.take k, decide (vOk y) = true) ∧ st = allVS l k) (s0 := allVS l 0) (n := l.length) (snd_of (by simp [LeT, allVS]) (by simp [allVS])) ⟨0, rfl, Nat.zero_le _, by simp, rfl⟩ ?_
  rintro n st ⟨k, hn, hk, hall, rfl⟩ KN hN
  by_cases h : k < l.length
  · have hx := List.getElem?_eq_getElem h
    obtain ⟨⟨⟨a, b⟩, c, d⟩, hq⟩ : ∃ q, q = l[k] := ⟨_, rfl⟩
    rw [← hq] at hx
    have e1 : ix (l.map EV.e) k = some (.agg [eQ a b, eQ c d]) := by
      unfold ix
      rw [List.getElem?_map, hx]; rfl
    obtain ⟨⟨i1, i2⟩, i3, i4⟩ := hb ((a, b), c, d) (List.mem_of_getElem? hx)
    have i1 : I64 a := i1
    have i2 : I64 b := i2
    have i3 : I64 c := i3
    have i4 : I64 d := i4
    obtain ⟨a1, a2⟩ := all_drop (fun v => decide (vOk v)) l k ((a, b), c, d) hx hall
    have w1 : IntKind.i64.wrap ((k : Int) + 1) = (k : Int) + 1 := i64_id _ (by omega) (by omega)
    by_cases hok : qOk a b ∧ qOk c d
    · have a2 := a2 (decide_eq_true hok)
      simp [-D.isLit, allVS, h, e1, i1, i2, i3, i4, hok.1, hok.2, w1]
      exact hN _ (nx (m := l.length - (k + 1)) (s'' := allVS l (k + 1)) (snd_obs (n := 15) [] rfl (by simp) (by simp [allVS])) ⟨k + 1, rfl, h, a2, rfl⟩ (by omega))
    · have a1 := a1 (decide_eq_false hok)
      rw [hr] at a1
      subst a1
      have hok' : (decide (qOk a b) && decide (qOk c d)) = false := by rw [← Bool.decide_and]; exact decide_eq_false hok
      simp [-D.isLit, allVS, h, e1, i1, i2, i3, i4, hok', w1]
  · have hkl : k = l.length := by omega
    subst hkl
    rw [List.take_length] at hall
    have hrt : r = true := by rw [← hr, List.all_eq_true]; exact hall
    subst hrt
    simp [allVS]
theorem allV_ok : callable Tryz.prog 72 = true := by kernel_rfl

/-! l.toVS -/
noncomputable def toVSC := ct1 EVL (fun l => l.length < 16777216 / 4) (fun l => [.sl 4 (l.map EV.e)])
@[simp] theorem toVSC_at (l : List ((Int × Int) × Int × Int)) : toVSC [.sl 4 (l.map EV.e)] = (l.length < 16777216 / 4, [.sl 4 (l.map EV.e)]) := ct1_at (A := EVL) l
noncomputable def toVSTb : List (FuncId × Ct) := [(13, .data toVC)]
theorem toVSTb_ok {N : NR} : TbOK N Tryz.prog (tbl toVSTb) := tbl_cons (c := .data toVC) toV_spec toV_ok tbl_nil

@[simp] theorem toVSTb1 : tbl toVSTb 13 = some (.data toVC) := rfl
def zV : D := .agg [.agg [.lit (.int .i64 0), .lit (.int .i64 0)], .agg [.lit (.int .i64 0), .lit (.int .i64 0)]]
@[simp] theorem zV_size : zV.size = 4 := rfl
def toVSS (l p q : List ((Int × Int) × Int × Int)) : St := ⟨[.dat (.sl 4 (l.map EV.e)), .any, .any, .row 7, .dat (.lit (.int .i64 p.length)), .any, .any, .any, .any, .any, .any, .any, .any, .any, .any, .any, .any, .any, .any, .any, .any, .any, .any], [none, none, none, none, none, none, none, some (.row 4 31 (p.map EV.e ++ List.replicate q.length zV)), none, none, none, none, none, none, none, none, none, none, none, none, none, none, none]⟩
theorem toVS_spec {N : NR} : SpecD N Tryz.prog 28 toVSC := by
  refine rd1 (mf := fun f => false) toVSTb_ok (fn := Tryz.f28) (by kernel_rfl) rfl (by kernel_rfl) (by kernel_rfl) ?_
  rintro l hl
  have hl : l.length < 4194304 := hl
  show awp _ _ _ _ (start _ ([.sl 4 (l.map EV.e)].map .dat) []) (endK _ _ _ ([D.sl 4 (l.map EV.e)].map .dat) [])
  simp only [Tryz.f28]
  simp
  refine ⟨by omega, ?_⟩
  refine loop_go (fun n st => ∃ p q, l = p ++ q ∧ n = q.length ∧ st = toVSS l p q) (s0 := toVSS l [] l) (n := l.length) (snd_of (by simp [LeT, toVSS, zV]) (by simp [toVSS, zV])) ⟨[], l, rfl, rfl, rfl⟩ ?_
  rintro n st ⟨p, q, rfl, rfl, rfl⟩ KN hN
  cases q with
  | nil =>
    simp [toVSS]
  | cons v q =>
    obtain ⟨⟨a, b⟩, c, d⟩ := v
    have e1 : ix (p.map EV.e ++ .agg [eQ a b, eQ c d] :: q.map EV.e) p.length = some (.agg [eQ a b, eQ c d]) := ix_mem (by simp)
    have e2 : lset (p.map EV.e ++ List.replicate (q.length + 1) zV) p.length (.agg [eQ a b, eQ c d]) = p.map EV.e ++ .agg [eQ a b, eQ c d] :: List.replicate q.length zV := by
      rw [List.replicate_succ]; exact lset_mem (by simp)
    have e3 : ix (p.map EV.e ++ List.replicate (q.length + 1) zV) p.length = some zV := by
      rw [List.replicate_succ]; exact ix_mem (by simp)
    have w1 : IntKind.i64.wrap ((p.length : Int) + 1) = (p.length : Int) + 1 := i64_id _ (by omega) (by simp at hl; omega)
    have e4 : (p.length : Int) < p.length + (q.length + 1) := by omega
    simp [-D.isLit, toVSS, e1, e2, e3, e4, w1]
    refine hN _ (nx (m := q.length) (s'' := toVSS (p ++ ((a, b), c, d) :: q) (p ++ [((a, b), c, d)]) q) (snd_of (by simp [LeT, toVSS]) (by simp [toVSS])) ⟨p ++ [((a, b), c, d)], q, by simp, rfl, rfl⟩ (by simp))
theorem toVS_ok : callable Tryz.prog 28 = true := by kernel_rfl

/-! l.szVS -/
def ESz : Enc (List ((Int × Int) × Int × Int)) := EVL
noncomputable def szVSC := ct2 EVL EInt (fun l n => l.length ≤ 9223372036854775807 ∧ 0 ≤ n ∧ n < 4611686018427387904) (fun l n => [.lit (.int .i64 (if n < l.length then -1 else n - l.length))])
@[simp] theorem szVSC_at (l : List ((Int × Int) × Int × Int)) (n : Int) : szVSC [.sl 4 (l.map EV.e), .lit (.int .i64 n)] = ((l.length ≤ 9223372036854775807 ∧ 0 ≤ n ∧ n < 4611686018427387904), [.lit (.int .i64 (if n < l.length then -1 else n - l.length))]) := ct2_at (A := EVL) (B := EInt) l n
theorem szVS_spec {N : NR} : SpecD N Tryz.prog 26 szVSC := by
  refine rd2 (mf := fun f => false) (tb := tbl []) tbl_nil (fn := Tryz.f26) (by kernel_rfl) rfl (by kernel_rfl) (by kernel_rfl) ?_
  rintro l n ⟨hl, h0, hn⟩
  show awp _ _ _ _ (start _ ([.sl 4 (l.map EV.e), .lit (.int .i64 n)].map .dat) []) (endK _ _ _ ([D.lit (.int .i64 (if n < l.length then -1 else n - l.length))].map .dat) [])
  have w1 : IntKind.i64.wrap (n - l.length) = n - l.length := i64_id _ (by omega) (by omega)
  by_cases h : n < l.length
  · have h' : n - l.length < 0 := by omega
    simp [Tryz.f26, w1, h, h']
  · have h' : ¬ n - l.length < 0 := by omega
    simp [Tryz.f26, w1, h, h']
theorem szVS_ok : callable Tryz.prog 26 = true := by kernel_rfl

/-! l.eqVS -/
noncomputable def eqVSC := ct2 EVL EVL (fun l m => l.length < 4611686018427387904 ∧ l = m) (fun l m => [.lit (.bool true)])
@[simp] theorem eqVSC_at (l m : List ((Int × Int) × Int × Int)) : eqVSC [.sl 4 (l.map EV.e), .sl 4 (m.map EV.e)] = ((l.length < 4611686018427387904 ∧ l = m), [.lit (.bool true)]) := ct2_at (A := EVL) (B := EVL) l m
noncomputable def eqVSTb : List (FuncId × Ct) := [(18, .data eqVC)]
theorem eqVSTb_ok {N : NR} : TbOK N Tryz.prog (tbl eqVSTb) := tbl_cons (c := .data eqVC) eqV_spec eqV_ok tbl_nil

@[simp] theorem eqVSTb1 : tbl eqVSTb 18 = some (.data eqVC) := rfl
def eqVSS (l : List ((Int × Int) × Int × Int)) (k : Nat) : St := ⟨[.dat (.sl 4 (l.map EV.e)), .dat (.sl 4 (l.map EV.e)), .any, .any, .any, .dat (.lit (.int .i64 k)), .any, .any, .any, .any, .any, .any, .any, .any, .any, .any, .any, .any, .any, .any, .any, .any, .any, .any, .any, .any, .any], [none, none, none, none, none, none, none, none, none, none, none, none, none, none, none, none, none, none, none, none, none, none, none, none, none, none, none]⟩
theorem eqVS_spec {N : NR} : SpecD N Tryz.prog 30 eqVSC := by
  refine rd2 (mf := fun f => false) eqVSTb_ok (fn := Tryz.f30) (by kernel_rfl) rfl (by kernel_rfl) (by kernel_rfl) ?_
  rintro l m ⟨hl, hm⟩
  have hm : l = m := hm
  subst hm
  show awp _ _ _ _ (start _ ([.sl 4 (l.map EV.e), .sl 4 (l.map EV.e)].map .dat) []) (endK _ _ _ ([D.lit (.bool true)].map .dat) [])
  simp only [Tryz.f30]
  simp
  refine loop_go (fun n st => ∃ k, n = l.length - k ∧ k ≤ l.length ∧ st = eqVSS l k) (s0 := eqVSS l 0) (n := l.length) (snd_of (by simp [LeT, eqVSS]) (by simp [eqVSS])) ⟨0, rfl, Nat.zero_le _, rfl⟩ ?_
  rintro n st ⟨k, hn, hk, rfl⟩ KN hN
  by_cases h : k < l.length
  · have hx := List.getElem?_eq_getElem h
    obtain ⟨⟨⟨a, b⟩, c, d⟩, hq⟩ : ∃ q, q = l[k] := ⟨_, rfl⟩
    rw [← hq] at hx
    have e1 : ix (l.map EV.e) k = some (.agg [eQ a b, eQ c d]) := by
      unfold ix
      rw [List.getElem?_map, hx]; rfl
    have w1 : IntKind.i64.wrap ((k : Int) + 1) = (k : Int) + 1 := i64_id _ (by omega) (by omega)
    simp [-D.isLit, eqVSS, h, e1, w1]
    exact hN _ (nx (m := l.length - (k + 1)) (s'' := eqVSS l (k + 1)) (snd_of (by simp [LeT, eqVSS]) (by simp [eqVSS])) ⟨k + 1, rfl, h, rfl⟩ (by omega))
  · have hkl : k = l.length := by omega
    subst hkl
    simp [eqVSS]
theorem eqVS_ok : callable Tryz.prog 30 = true := by kernel_rfl
end Go.Proofs.YtlniifhdimaliaaGreat.Ae

/-! Nets: what the laws count, copy and compare. No condition. -/
namespace Go.Proofs.YtlniifhdimaliaaGreat.Ae
open Go Go.RowKit Go.Proofs.YtlniifhdimaliaaGreat.Dig

abbrev NE := Int × Int × List Int
def EIL : Enc (List Int) := EInt.list 1
def ENE : Enc NE := EInt.trip EInt EIL
def ENEL : Enc (List NE) := ENE.list 3
def EILL : Enc (List (List Int)) := EIL.list 1
abbrev NetT := List ((Int × Int) × Int × Int) × List NE × List (List Int)
def ENet : Enc NetT := EVL.trip ENEL EILL
@[simp] theorem EIL_e (l : List Int) : EIL.e l = .sl 1 (l.map EInt.e) := rfl
@[simp] theorem ENE_e (a b : Int) (o : List Int) : ENE.e (a, b, o) = .agg [.lit (.int .i64 a), .lit (.int .i64 b), .sl 1 (o.map EInt.e)] := rfl
@[simp] theorem ENEL_e (l : List NE) : ENEL.e l = .sl 3 (l.map ENE.e) := rfl
@[simp] theorem EILL_e (l : List (List Int)) : EILL.e l = .sl 1 (l.map EIL.e) := rfl
@[simp] theorem ENet_e (v : List ((Int × Int) × Int × Int)) (e : List NE) (l : List (List Int)) : ENet.e (v, e, l) = .agg [.sl 4 (v.map EV.e), .sl 3 (e.map ENE.e), .sl 1 (l.map EIL.e)] := rfl
theorem int_at {l : List Int} {k : Nat} (h : k < l.length) : ∃ a, l[k]? = some a ∧ ix (l.map EInt.e) k = some (.lit (.int .i64 a)) ∧ a ∈ l := by
  have hx := List.getElem?_eq_getElem h
  exact ⟨l[k], hx, by unfold ix; rw [List.getElem?_map, hx]; rfl, List.mem_of_getElem? hx⟩
theorem ne_at {l : List NE} {k : Nat} (h : k < l.length) : ∃ a b o, l[k]? = some (a, b, o) ∧ ix (l.map ENE.e) k = some (.agg [.lit (.int .i64 a), .lit (.int .i64 b), .sl 1 (o.map EInt.e)]) ∧ (a, b, o) ∈ l := by
  have hx := List.getElem?_eq_getElem h
  obtain ⟨⟨a, b, o⟩, hq⟩ : ∃ q, q = l[k] := ⟨_, rfl⟩
  rw [← hq] at hx
  exact ⟨a, b, o, hx, by unfold ix; rw [List.getElem?_map, hx]; rfl, List.mem_of_getElem? hx⟩
theorem il_at {l : List (List Int)} {k : Nat} (h : k < l.length) : ∃ o, l[k]? = some o ∧ ix (l.map EIL.e) k = some (.sl 1 (o.map EInt.e)) ∧ o ∈ l := by
  have hx := List.getElem?_eq_getElem h
  exact ⟨l[k], hx, by unfold ix; rw [List.getElem?_map, hx]; rfl, List.mem_of_getElem? hx⟩
@[simp] theorem i64D_size (x : Int) : (i64D x).size = 1 := rfl
@[simp] theorem i64D_agg (x : Int) : (i64D x).isAgg = false := rfl
def lmax : Nat := 9223372036854775807
/-- What is left of a number when a list's lengths are taken off, one by one; -1 as soon as one is too long. -/
def szF : List Nat → Int → Int
  | [], m => m
  | x :: xs, m => if m < x then -1 else szF xs (m - x)
theorem szF_le : ∀ (ls : List Nat) (m : Int), 0 ≤ szF ls m → (∀ x ∈ ls, (x : Int) ≤ m) ∧ szF ls m ≤ m
  | [], m, _ => ⟨fun x h => by simp at h, Int.le_refl _⟩
  | y :: ls, m, h => by
    unfold szF at h ⊢
    split at h
    · omega
    · rename_i hy
      rw [if_neg hy]
      obtain ⟨h1, h2⟩ := szF_le ls (m - y) h
      exact ⟨fun x hx => by
        rcases List.mem_cons.1 hx with rfl | hx
        · omega
        · have := h1 x hx; omega, by omega⟩
def szL (c : Nat) (n : Int) : Int := if n < c then -1 else n - c
def szG (c : Nat) (ls : List Nat) (n : Int) : Int := if n < c then -1 else szF ls (n - c)
theorem szG_le {c : Nat} {ls : List Nat} {n : Int} (h : 0 ≤ szG c ls n) : (c : Int) ≤ n ∧ (∀ x ∈ ls, (x : Int) ≤ n) ∧ szG c ls n ≤ n := by
  unfold szG at h ⊢
  split at h
  · omega
  · rename_i hc
    rw [if_neg hc]
    obtain ⟨h1, h2⟩ := szF_le ls (n - c) h
    exact ⟨by omega, fun x hx => by have := h1 x hx; omega, by omega⟩
theorem szF_ge (ls : List Nat) (m : Int) (h : 0 ≤ m) : -1 ≤ szF ls m := by
  induction ls generalizing m with
  | nil => unfold szF; omega
  | cons x ls ih =>
    unfold szF; split
    · omega
    · exact ih _ (by omega)

/-! l.szInt64S -/
noncomputable def szILC := ct2 EIL EInt (fun l n => l.length ≤ lmax ∧ 0 ≤ n ∧ n < 4611686018427387904) (fun l n => [.lit (.int .i64 (szL l.length n))])
@[simp] theorem szILC_at (l : List Int) (n : Int) : szILC [.sl 1 (l.map EInt.e), .lit (.int .i64 n)] = ((l.length ≤ lmax ∧ 0 ≤ n ∧ n < 4611686018427387904), [.lit (.int .i64 (szL l.length n))]) := ct2_at (A := EIL) (B := EInt) l n
theorem szIL_spec {N : NR} : SpecD N Tryz.prog 127 szILC := by
  refine rd2 (mf := fun f => false) (tb := tbl []) tbl_nil (fn := Tryz.f127) (by kernel_rfl) rfl (by kernel_rfl) (by kernel_rfl) ?_
  rintro l n ⟨hl, h0, hn⟩
  have hl : l.length ≤ 9223372036854775807 := hl
  show awp _ _ _ _ (start _ ([.sl 1 (l.map EInt.e), .lit (.int .i64 n)].map .dat) []) (endK _ _ _ ([D.lit (.int .i64 (szL l.length n))].map .dat) [])
  have w1 : IntKind.i64.wrap (n - l.length) = n - l.length := i64_id _ (by omega) (by omega)
  by_cases h : n < l.length
  · have h' : n - l.length < 0 := by omega
    simp [Tryz.f127, szL, w1, h, h']
  · have h' : ¬ n - l.length < 0 := by omega
    simp [Tryz.f127, szL, w1, h, h']
theorem szIL_ok : callable Tryz.prog 127 = true := by kernel_rfl

/-! l.szNetEdge -/
noncomputable def szNEC := ct2 ENE EInt (fun e n => e.2.2.length ≤ lmax ∧ 0 ≤ n ∧ n < 4611686018427387904) (fun e n => [.lit (.int .i64 (szL e.2.2.length n))])
@[simp] theorem szNEC_at (a b : Int) (o : List Int) (n : Int) : szNEC [.agg [.lit (.int .i64 a), .lit (.int .i64 b), .sl 1 (o.map EInt.e)], .lit (.int .i64 n)] = ((o.length ≤ lmax ∧ 0 ≤ n ∧ n < 4611686018427387904), [.lit (.int .i64 (szL o.length n))]) := ct2_at (A := ENE) (B := EInt) (a, b, o) n
noncomputable def szNETb : List (FuncId × Ct) := [(127, .data szILC)]
theorem szNETb_ok {N : NR} : TbOK N Tryz.prog (tbl szNETb) := tbl_cons (c := .data szILC) szIL_spec szIL_ok tbl_nil

@[simp] theorem szNETb1 : tbl szNETb 127 = some (.data szILC) := rfl
theorem szNE_spec {N : NR} : SpecD N Tryz.prog 126 szNEC := by
  refine rd2 (mf := fun f => false) szNETb_ok (fn := Tryz.f126) (by kernel_rfl) rfl (by kernel_rfl) (by kernel_rfl) ?_
  rintro ⟨a, b, o⟩ n ⟨hl, h0, hn⟩
  have hl : o.length ≤ lmax := hl
  show awp _ _ _ _ (start _ ([.agg [.lit (.int .i64 a), .lit (.int .i64 b), .sl 1 (o.map EInt.e)], .lit (.int .i64 n)].map .dat) []) (endK _ _ _ ([D.lit (.int .i64 (szL o.length n))].map .dat) [])
  by_cases h : n < o.length
  · have e : szL o.length n = -1 := by unfold szL; rw [if_pos h]
    simp [-D.isLit, Tryz.f126, hl, h0, hn, e]
  · have e : szL o.length n = n - o.length := by unfold szL; rw [if_neg h]
    have h' : ¬ n - o.length < 0 := by omega
    simp [-D.isLit, Tryz.f126, hl, h0, hn, e, h']
theorem szNE_ok : callable Tryz.prog 126 = true := by kernel_rfl

/-! l.szNetEdgeS -/
noncomputable def szNELC := ct2 ENEL EInt (fun l n => (l.length ≤ lmax ∧ ∀ x ∈ l, x.2.2.length ≤ lmax) ∧ 0 ≤ n ∧ n < 4611686018427387904) (fun l n => [.lit (.int .i64 (szG l.length (l.map fun x => x.2.2.length) n))])
@[simp] theorem szNELC_at (l : List (NE)) (n : Int) : szNELC [.sl 3 (l.map ENE.e), .lit (.int .i64 n)] = (((l.length ≤ lmax ∧ ∀ x ∈ l, x.2.2.length ≤ lmax) ∧ 0 ≤ n ∧ n < 4611686018427387904), [.lit (.int .i64 (szG l.length (l.map fun x => x.2.2.length) n))]) := ct2_at (A := ENEL) (B := EInt) l n
noncomputable def szNELTb : List (FuncId × Ct) := [(126, .data szNEC)]
theorem szNELTb_ok {N : NR} : TbOK N Tryz.prog (tbl szNELTb) := tbl_cons (c := .data szNEC) szNE_spec szNE_ok tbl_nil

@[simp] theorem szNELTb1 : tbl szNELTb 126 = some (.data szNEC) := rfl
def szNELS (l : List (NE)) (m : Int) (k : Nat) : St := ⟨[.dat (.sl 3 (l.map ENE.e)), .dat (.lit (.int .i64 m)), .any, .any, .any, .dat (.lit (.int .i64 k)), .any, .any, .any, .any, .any, .any, .any, .any, .any, .any, .any, .any, .any, .any, .any, .any, .any, .any, .any, .any, .any], [none, none, none, none, none, none, none, none, none, none, none, none, none, none, none, none, none, none, none, none, none, none, none, none, none, none, none]⟩
theorem szNEL_spec {N : NR} : SpecD N Tryz.prog 74 szNELC := by
  refine rd2 (mf := fun f => false) szNELTb_ok (fn := Tryz.f74) (by kernel_rfl) rfl (by kernel_rfl) (by kernel_rfl) ?_
  rintro l n ⟨⟨hl, hb⟩, h0, hn⟩
  have hl : l.length ≤ 9223372036854775807 := hl
  generalize hr : szG l.length (l.map fun x => x.2.2.length) n = r
  show awp _ _ _ _ (start _ ([.sl 3 (l.map ENE.e), .lit (.int .i64 n)].map .dat) []) (endK _ _ _ ([D.lit (.int .i64 r)].map .dat) [])
  simp only [Tryz.f74]
  have w1 : IntKind.i64.wrap (n - l.length) = n - l.length := i64_id _ (by omega) (by omega)
  by_cases h : n < l.length
  · have h' : n - l.length < 0 := by omega
    have e : r = -1 := by rw [← hr]; unfold szG; rw [if_pos h]
    subst e
    simp [-D.isLit, w1, h']
  have h' : ¬ n - l.length < 0 := by omega
  have hr : szF (l.map fun x => x.2.2.length) (n - l.length) = r := by rw [← hr]; unfold szG; rw [if_neg h]
  simp [-D.isLit, w1, h']
  refine loop_go (fun q st => ∃ k m, q = l.length - k ∧ k ≤ l.length ∧ (0 ≤ m ∧ m ≤ n) ∧ szF ((l.drop k).map fun x => x.2.2.length) m = r ∧ st = szNELS l m k) (s0 := szNELS l (n - l.length) 0) (n := l.length) (snd_of (by simp [LeT, szNELS]) (by simp [szNELS])) ⟨0, n - l.length, rfl, Nat.zero_le _, ⟨by omega, by omega⟩, hr, rfl⟩ ?_
  rintro q st ⟨k, m, hq, hk, ⟨hm0, hmn⟩, hm, rfl⟩ KN hN
  by_cases hlt : k < l.length
  · obtain ⟨a, b, o, hx, e1, hmem⟩ := ne_at hlt
    have hlen := hb _ hmem
    have hlen : o.length ≤ lmax := hlen
    have ed : l.drop k = _ :: l.drop (k + 1) := List.drop_eq_getElem_cons hlt
    have eg : l[k] = _ := Option.some.inj ((List.getElem?_eq_getElem hlt).symm.trans hx)
    rw [eg] at ed
    rw [ed] at hm
    have hm : (if m < o.length then -1 else szF ((l.drop (k + 1)).map fun x => x.2.2.length) (m - o.length)) = r := hm
    have w2 : IntKind.i64.wrap ((k : Int) + 1) = (k : Int) + 1 := i64_id _ (by omega) (by omega)
    have hm62 : m < 4611686018427387904 := by omega
    by_cases hc : m < o.length
    · rw [if_pos hc] at hm
      subst hm
      have e2 : szL o.length m = -1 := by unfold szL; rw [if_pos hc]
      simp [-D.isLit, szNELS, hlt, e1, hlen, hm0, hm62, e2]
    · rw [if_neg hc] at hm
      have e2 : szL o.length m = m - o.length := by unfold szL; rw [if_neg hc]
      have hc' : ¬ m - o.length < 0 := by omega
      simp [-D.isLit, szNELS, hlt, e1, hlen, hm0, hm62, e2, hc', w2]
      exact hN _ (nx (m := l.length - (k + 1)) (s'' := szNELS l (m - o.length) (k + 1)) (snd_of (by simp [LeT, szNELS]) (by simp [szNELS])) ⟨k + 1, m - o.length, rfl, hlt, ⟨by omega, by omega⟩, hm, rfl⟩ (by omega))
  · have hkl : k = l.length := by omega
    subst hkl
    rw [List.drop_length] at hm
    have hm : m = r := hm
    subst hm
    simp [szNELS]
theorem szNEL_ok : callable Tryz.prog 74 = true := by kernel_rfl

/-! l.szInt64SS -/
noncomputable def szILLC := ct2 EILL EInt (fun l n => (l.length ≤ lmax ∧ ∀ x ∈ l, x.length ≤ lmax) ∧ 0 ≤ n ∧ n < 4611686018427387904) (fun l n => [.lit (.int .i64 (szG l.length (l.map fun x => x.length) n))])
@[simp] theorem szILLC_at (l : List (List Int)) (n : Int) : szILLC [.sl 1 (l.map EIL.e), .lit (.int .i64 n)] = (((l.length ≤ lmax ∧ ∀ x ∈ l, x.length ≤ lmax) ∧ 0 ≤ n ∧ n < 4611686018427387904), [.lit (.int .i64 (szG l.length (l.map fun x => x.length) n))]) := ct2_at (A := EILL) (B := EInt) l n
noncomputable def szILLTb : List (FuncId × Ct) := [(127, .data szILC)]
theorem szILLTb_ok {N : NR} : TbOK N Tryz.prog (tbl szILLTb) := tbl_cons (c := .data szILC) szIL_spec szIL_ok tbl_nil

@[simp] theorem szILLTb1 : tbl szILLTb 127 = some (.data szILC) := rfl
def szILLS (l : List (List Int)) (m : Int) (k : Nat) : St := ⟨[.dat (.sl 1 (l.map EIL.e)), .dat (.lit (.int .i64 m)), .any, .any, .any, .dat (.lit (.int .i64 k)), .any, .any, .any, .any, .any, .any, .any, .any, .any, .any, .any, .any, .any, .any, .any, .any, .any, .any, .any, .any, .any], [none, none, none, none, none, none, none, none, none, none, none, none, none, none, none, none, none, none, none, none, none, none, none, none, none, none, none]⟩
theorem szILL_spec {N : NR} : SpecD N Tryz.prog 75 szILLC := by
  refine rd2 (mf := fun f => false) szILLTb_ok (fn := Tryz.f75) (by kernel_rfl) rfl (by kernel_rfl) (by kernel_rfl) ?_
  rintro l n ⟨⟨hl, hb⟩, h0, hn⟩
  have hl : l.length ≤ 9223372036854775807 := hl
  generalize hr : szG l.length (l.map fun x => x.length) n = r
  show awp _ _ _ _ (start _ ([.sl 1 (l.map EIL.e), .lit (.int .i64 n)].map .dat) []) (endK _ _ _ ([D.lit (.int .i64 r)].map .dat) [])
  simp only [Tryz.f75]
  have w1 : IntKind.i64.wrap (n - l.length) = n - l.length := i64_id _ (by omega) (by omega)
  by_cases h : n < l.length
  · have h' : n - l.length < 0 := by omega
    have e : r = -1 := by rw [← hr]; unfold szG; rw [if_pos h]
    subst e
    simp [-D.isLit, w1, h']
  have h' : ¬ n - l.length < 0 := by omega
  have hr : szF (l.map fun x => x.length) (n - l.length) = r := by rw [← hr]; unfold szG; rw [if_neg h]
  simp [-D.isLit, w1, h']
  refine loop_go (fun q st => ∃ k m, q = l.length - k ∧ k ≤ l.length ∧ (0 ≤ m ∧ m ≤ n) ∧ szF ((l.drop k).map fun x => x.length) m = r ∧ st = szILLS l m k) (s0 := szILLS l (n - l.length) 0) (n := l.length) (snd_of (by simp [LeT, szILLS]) (by simp [szILLS])) ⟨0, n - l.length, rfl, Nat.zero_le _, ⟨by omega, by omega⟩, hr, rfl⟩ ?_
  rintro q st ⟨k, m, hq, hk, ⟨hm0, hmn⟩, hm, rfl⟩ KN hN
  by_cases hlt : k < l.length
  · obtain ⟨o, hx, e1, hmem⟩ := il_at hlt
    have hlen := hb _ hmem
    have hlen : o.length ≤ lmax := hlen
    have ed : l.drop k = _ :: l.drop (k + 1) := List.drop_eq_getElem_cons hlt
    have eg : l[k] = _ := Option.some.inj ((List.getElem?_eq_getElem hlt).symm.trans hx)
    rw [eg] at ed
    rw [ed] at hm
    have hm : (if m < o.length then -1 else szF ((l.drop (k + 1)).map fun x => x.length) (m - o.length)) = r := hm
    have w2 : IntKind.i64.wrap ((k : Int) + 1) = (k : Int) + 1 := i64_id _ (by omega) (by omega)
    have hm62 : m < 4611686018427387904 := by omega
    by_cases hc : m < o.length
    · rw [if_pos hc] at hm
      subst hm
      have e2 : szL o.length m = -1 := by unfold szL; rw [if_pos hc]
      simp [-D.isLit, szILLS, hlt, e1, hlen, hm0, hm62, e2]
    · rw [if_neg hc] at hm
      have e2 : szL o.length m = m - o.length := by unfold szL; rw [if_neg hc]
      have hc' : ¬ m - o.length < 0 := by omega
      simp [-D.isLit, szILLS, hlt, e1, hlen, hm0, hm62, e2, hc', w2]
      exact hN _ (nx (m := l.length - (k + 1)) (s'' := szILLS l (m - o.length) (k + 1)) (snd_of (by simp [LeT, szILLS]) (by simp [szILLS])) ⟨k + 1, m - o.length, rfl, hlt, ⟨by omega, by omega⟩, hm, rfl⟩ (by omega))
  · have hkl : k = l.length := by omega
    subst hkl
    rw [List.drop_length] at hm
    have hm : m = r := hm
    subst hm
    simp [szILLS]
theorem szILL_ok : callable Tryz.prog 75 = true := by kernel_rfl

/-! l.szNet -/
def netL (p : NetT) : Prop := p.1.length ≤ lmax ∧ (p.2.1.length ≤ lmax ∧ ∀ x ∈ p.2.1, x.2.2.length ≤ lmax) ∧ (p.2.2.length ≤ lmax ∧ ∀ x ∈ p.2.2, x.length ≤ lmax)
def szN (p : NetT) (n : Int) : Int := if szL p.1.length n < 0 then -1 else if szG p.2.1.length (p.2.1.map fun x => x.2.2.length) (szL p.1.length n) < 0 then -1 else szG p.2.2.length (p.2.2.map fun x => x.length) (szG p.2.1.length (p.2.1.map fun x => x.2.2.length) (szL p.1.length n))
noncomputable def szNC := ct2 ENet EInt (fun p n => netL p ∧ 0 ≤ n ∧ n < 4611686018427387904) (fun p n => [.lit (.int .i64 (szN p n))])
@[simp] theorem szNC_at (v : List ((Int × Int) × Int × Int)) (e : List NE) (l : List (List Int)) (n : Int) : szNC [.agg [.sl 4 (v.map EV.e), .sl 3 (e.map ENE.e), .sl 1 (l.map EIL.e)], .lit (.int .i64 n)] = ((netL (v, e, l) ∧ 0 ≤ n ∧ n < 4611686018427387904), [.lit (.int .i64 (szN (v, e, l) n))]) := ct2_at (A := ENet) (B := EInt) (v, e, l) n
noncomputable def szNTb : List (FuncId × Ct) := [(26, .data szVSC), (74, .data szNELC), (75, .data szILLC)]
theorem szNTb_ok {N : NR} : TbOK N Tryz.prog (tbl szNTb) := tbl_cons (c := .data szVSC) szVS_spec szVS_ok (tbl_cons (c := .data szNELC) szNEL_spec szNEL_ok (tbl_cons (c := .data szILLC) szILL_spec szILL_ok tbl_nil))

@[simp] theorem szNTb1 : tbl szNTb 26 = some (.data szVSC) := rfl
@[simp] theorem szNTb2 : tbl szNTb 74 = some (.data szNELC) := rfl
@[simp] theorem szNTb3 : tbl szNTb 75 = some (.data szILLC) := rfl
theorem szN_spec {N : NR} : SpecD N Tryz.prog 31 szNC := by
  refine rd2 (mf := fun f => false) szNTb_ok (fn := Tryz.f31) (by kernel_rfl) rfl (by kernel_rfl) (by kernel_rfl) ?_
  rintro ⟨v, e, l⟩ n ⟨⟨h1, ⟨h2, h3⟩, h4, h5⟩, h0, hn⟩
  have h1 : v.length ≤ 9223372036854775807 := h1
  have h2 : e.length ≤ lmax := h2
  have h3 : ∀ x ∈ e, x.2.2.length ≤ lmax := h3
  have h4 : l.length ≤ lmax := h4
  have h5 : ∀ x ∈ l, x.length ≤ lmax := h5
  have c1 := szNELC_at e (n - v.length)
  have c2 := szILLC_at l (szG e.length (e.map fun x => x.2.2.length) (n - v.length))
  generalize hr : szN (v, e, l) n = r
  show awp _ _ _ _ (start _ ([.agg [.sl 4 (v.map EV.e), .sl 3 (e.map ENE.e), .sl 1 (l.map EIL.e)], .lit (.int .i64 n)].map .dat) []) (endK _ _ _ ([D.lit (.int .i64 r)].map .dat) [])
  unfold szN at hr
  have hr : (if szL v.length n < 0 then -1 else if szG e.length (e.map fun x => x.2.2.length) (szL v.length n) < 0 then -1 else szG l.length (l.map fun x => x.length) (szG e.length (e.map fun x => x.2.2.length) (szL v.length n))) = r := hr
  by_cases k1 : n < v.length
  · have e1 : szL v.length n = -1 := by unfold szL; rw [if_pos k1]
    rw [e1] at hr
    have hr : (-1 : Int) = r := hr
    subst hr
    simp [-D.isLit, Tryz.f31, h1, h0, hn, k1]
  have e1 : szL v.length n = n - v.length := by unfold szL; rw [if_neg k1]
  have k1' : ¬ n - v.length < 0 := by omega
  have k1'' : 0 ≤ n - v.length ∧ n - v.length < 4611686018427387904 := by omega
  rw [e1, if_neg k1'] at hr
  rw [eq_true (⟨⟨h2, h3⟩, k1''⟩ : (e.length ≤ lmax ∧ ∀ x ∈ e, x.2.2.length ≤ lmax) ∧ 0 ≤ n - v.length ∧ n - v.length < 4611686018427387904)] at c1
  have hge : -1 ≤ szG e.length (e.map fun x => x.2.2.length) (n - v.length) := by
    unfold szG; split
    · omega
    · exact szF_ge _ _ (by omega)
  have hle := fun x => (szG_le (c := e.length) (ls := e.map fun x => x.2.2.length) (n := n - v.length) x).2.2
  generalize szG e.length (e.map fun x => x.2.2.length) (n - v.length) = m at *
  by_cases k2 : m < 0
  · rw [if_pos k2] at hr
    subst hr
    simp [-D.isLit, -szNELC_at, -szILLC_at, Tryz.f31, h1, h0, hn, k1, k1', c1, k2]
  rw [if_neg k2] at hr
  have hlem := hle (by omega)
  have k2' : 0 ≤ m ∧ m < 4611686018427387904 := by omega
  rw [eq_true (⟨⟨h4, h5⟩, k2'⟩ : (l.length ≤ lmax ∧ ∀ x ∈ l, x.length ≤ lmax) ∧ 0 ≤ m ∧ m < 4611686018427387904), hr] at c2
  by_cases k3 : r < 0
  · have hr1 : r = -1 := by
      have : -1 ≤ r := by
        rw [← hr]; unfold szG; split
        · omega
        · exact szF_ge _ _ (by omega)
      omega
    subst hr1
    simp [-D.isLit, -szNELC_at, -szILLC_at, Tryz.f31, h1, h0, hn, k1, k1', c1, k2, c2]
  · simp [-D.isLit, -szNELC_at, -szILLC_at, Tryz.f31, h1, h0, hn, k1, k1', c1, k2, c2, k3]
theorem szN_ok : callable Tryz.prog 31 = true := by kernel_rfl

/-! l.toInt64S -/
noncomputable def toILC := ct1 EIL (fun l => l.length < 1048577) (fun l => [.sl 1 (l.map EInt.e)])
@[simp] theorem toILC_at (l : List (Int)) : toILC [.sl 1 (l.map EInt.e)] = ((l.length < 1048577), [.sl 1 (l.map EInt.e)]) := ct1_at (A := EIL) l
def toILS (l p q : List (Int)) : St := ⟨[.dat (.sl 1 (l.map EInt.e)), .any, .any, .row 7, .dat (.lit (.int .i64 p.length)), .any, .any, .any, .any, .any, .any, .any, .any, .any, .any, .any, .any, .any, .any, .any, .any, .any], [none, none, none, none, none, none, none, some (.row 1 2 (p.map EInt.e ++ List.replicate q.length (.lit (.int .i64 0)))), none, none, none, none, none, none, none, none, none, none, none, none, none, none]⟩
theorem toIL_spec {N : NR} : SpecD N Tryz.prog 132 toILC := by
  refine rd1 (mf := fun f => false) (tb := tbl []) tbl_nil (fn := Tryz.f132) (by kernel_rfl) rfl (by kernel_rfl) (by kernel_rfl) ?_
  rintro l hpre
  have hl : l.length < 1048577 := hpre
  show awp _ _ _ _ (start _ ([.sl 1 (l.map EInt.e)].map .dat) []) (endK _ _ _ ([D.sl 1 (l.map EInt.e)].map .dat) [])
  simp only [Tryz.f132]
  simp
  refine ⟨by omega, ?_⟩
  refine loop_go (fun n st => ∃ p q, l = p ++ q ∧ n = q.length ∧ st = toILS l p q) (s0 := toILS l [] l) (n := l.length) (snd_of (by simp [LeT, toILS]) (by simp [toILS])) ⟨[], l, rfl, rfl, rfl⟩ ?_
  rintro n st ⟨p, q, rfl, rfl, rfl⟩ KN hN
  cases q with
  | nil => simp [toILS]
  | cons v q =>
    obtain ⟨o, ho⟩ : ∃ y, y = v := ⟨v, rfl⟩
    subst ho
    have e1 : ix (p.map EInt.e ++ i64D o :: q.map EInt.e) p.length = some (i64D o) := ix_mem (by simp)
    have e2 : lset (p.map EInt.e ++ List.replicate (q.length + 1) (.lit (.int .i64 0))) p.length (i64D o) = p.map EInt.e ++ i64D o :: List.replicate q.length (.lit (.int .i64 0)) := by
      rw [List.replicate_succ]; exact lset_mem (by simp)
    have e3 : ix (p.map EInt.e ++ List.replicate (q.length + 1) (.lit (.int .i64 0))) p.length = some (.lit (.int .i64 0)) := by
      rw [List.replicate_succ]; exact ix_mem (by simp)
    have w1 : IntKind.i64.wrap ((p.length : Int) + 1) = (p.length : Int) + 1 := i64_id _ (by omega) (by simp at hl; omega)
    have e4 : (p.length : Int) < p.length + (q.length + 1) := by omega
    simp [-D.isLit, toILS, e1, e2, e3, e4, w1]
    refine hN _ (nx (m := q.length) (s'' := toILS (p ++ o :: q) (p ++ [o]) q) (snd_of (by simp [LeT, toILS]) (by simp [toILS])) ⟨p ++ [o], q, by simp, rfl, rfl⟩ (by simp))
theorem toIL_ok : callable Tryz.prog 132 = true := by kernel_rfl

/-! l.toNetEdge -/
noncomputable def toNEC := ct1 ENE (fun e => e.2.2.length < 1048577) (fun e => [ENE.e e])
@[simp] theorem toNEC_at (a b : Int) (o : List Int) : toNEC [.agg [.lit (.int .i64 a), .lit (.int .i64 b), .sl 1 (o.map EInt.e)]] = (o.length < 1048577, [.agg [.lit (.int .i64 a), .lit (.int .i64 b), .sl 1 (o.map EInt.e)]]) := ct1_at (A := ENE) (a, b, o)
noncomputable def toNETb : List (FuncId × Ct) := [(132, .data toILC)]
theorem toNETb_ok {N : NR} : TbOK N Tryz.prog (tbl toNETb) := tbl_cons (c := .data toILC) toIL_spec toIL_ok tbl_nil

@[simp] theorem toNETb1 : tbl toNETb 132 = some (.data toILC) := rfl
theorem toNE_spec {N : NR} : SpecD N Tryz.prog 131 toNEC := by
  refine rd1 (mf := fun f => false) toNETb_ok (fn := Tryz.f131) (by kernel_rfl) rfl (by kernel_rfl) (by kernel_rfl) ?_
  rintro ⟨a, b, o⟩ hl
  have hl : o.length < 1048577 := hl
  show awp _ _ _ _ (start _ ([.agg [.lit (.int .i64 a), .lit (.int .i64 b), .sl 1 (o.map EInt.e)]].map .dat) []) (endK _ _ _ ([.agg [.lit (.int .i64 a), .lit (.int .i64 b), .sl 1 (o.map EInt.e)]].map .dat) [])
  simp [-D.isLit, Tryz.f131, hl]
theorem toNE_ok : callable Tryz.prog 131 = true := by kernel_rfl

/-! l.toNetEdgeS -/
noncomputable def toNELC := ct1 ENEL (fun l => l.length < 1048577 ∧ ∀ x ∈ l, x.2.2.length < 1048577) (fun l => [.sl 3 (l.map ENE.e)])
@[simp] theorem toNELC_at (l : List (NE)) : toNELC [.sl 3 (l.map ENE.e)] = ((l.length < 1048577 ∧ ∀ x ∈ l, x.2.2.length < 1048577), [.sl 3 (l.map ENE.e)]) := ct1_at (A := ENEL) l
noncomputable def toNELTb : List (FuncId × Ct) := [(131, .data toNEC)]
theorem toNELTb_ok {N : NR} : TbOK N Tryz.prog (tbl toNELTb) := tbl_cons (c := .data toNEC) toNE_spec toNE_ok tbl_nil

@[simp] theorem toNELTb1 : tbl toNELTb 131 = some (.data toNEC) := rfl
def toNELS (l p q : List (NE)) : St := ⟨[.dat (.sl 3 (l.map ENE.e)), .any, .any, .row 7, .dat (.lit (.int .i64 p.length)), .any, .any, .any, .any, .any, .any, .any, .any, .any, .any, .any, .any, .any, .any, .any, .any, .any, .any], [none, none, none, none, none, none, none, some (.row 3 124 (p.map ENE.e ++ List.replicate q.length (.agg [.lit (.int .i64 0), .lit (.int .i64 0), .lit (.slice none 0 0)]))), none, none, none, none, none, none, none, none, none, none, none, none, none, none, none]⟩
theorem toNEL_spec {N : NR} : SpecD N Tryz.prog 79 toNELC := by
  refine rd1 (mf := fun f => false) toNELTb_ok (fn := Tryz.f79) (by kernel_rfl) rfl (by kernel_rfl) (by kernel_rfl) ?_
  rintro l hpre
  have hl : l.length < 1048577 := hpre.1
  show awp _ _ _ _ (start _ ([.sl 3 (l.map ENE.e)].map .dat) []) (endK _ _ _ ([D.sl 3 (l.map ENE.e)].map .dat) [])
  simp only [Tryz.f79]
  simp
  refine ⟨by omega, ?_⟩
  refine loop_go (fun n st => ∃ p q, l = p ++ q ∧ n = q.length ∧ st = toNELS l p q) (s0 := toNELS l [] l) (n := l.length) (snd_of (by simp [LeT, toNELS]) (by simp [toNELS])) ⟨[], l, rfl, rfl, rfl⟩ ?_
  rintro n st ⟨p, q, rfl, rfl, rfl⟩ KN hN
  cases q with
  | nil => simp [toNELS]
  | cons v q =>
    obtain ⟨a, b, o⟩ := v
    have hea : o.length < 1048577 := hpre.2 (a, b, o) (by simp)
    have e1 : ix (p.map ENE.e ++ .agg [.lit (.int .i64 a), .lit (.int .i64 b), .sl 1 (o.map EInt.e)] :: q.map ENE.e) p.length = some (.agg [.lit (.int .i64 a), .lit (.int .i64 b), .sl 1 (o.map EInt.e)]) := ix_mem (by simp)
    have e2 : lset (p.map ENE.e ++ List.replicate (q.length + 1) (.agg [.lit (.int .i64 0), .lit (.int .i64 0), .lit (.slice none 0 0)])) p.length (.agg [.lit (.int .i64 a), .lit (.int .i64 b), .sl 1 (o.map EInt.e)]) = p.map ENE.e ++ .agg [.lit (.int .i64 a), .lit (.int .i64 b), .sl 1 (o.map EInt.e)] :: List.replicate q.length (.agg [.lit (.int .i64 0), .lit (.int .i64 0), .lit (.slice none 0 0)]) := by
      rw [List.replicate_succ]; exact lset_mem (by simp)
    have e3 : ix (p.map ENE.e ++ List.replicate (q.length + 1) (.agg [.lit (.int .i64 0), .lit (.int .i64 0), .lit (.slice none 0 0)])) p.length = some (.agg [.lit (.int .i64 0), .lit (.int .i64 0), .lit (.slice none 0 0)]) := by
      rw [List.replicate_succ]; exact ix_mem (by simp)
    have w1 : IntKind.i64.wrap ((p.length : Int) + 1) = (p.length : Int) + 1 := i64_id _ (by omega) (by simp at hl; omega)
    have e4 : (p.length : Int) < p.length + (q.length + 1) := by omega
    simp [-D.isLit, toNELS, e1, e2, e3, e4, w1, hea]
    refine hN _ (nx (m := q.length) (s'' := toNELS (p ++ (a, b, o) :: q) (p ++ [(a, b, o)]) q) (snd_of (by simp [LeT, toNELS]) (by simp [toNELS])) ⟨p ++ [(a, b, o)], q, by simp, rfl, rfl⟩ (by simp))
theorem toNEL_ok : callable Tryz.prog 79 = true := by kernel_rfl

/-! l.toInt64SS -/
noncomputable def toILLC := ct1 EILL (fun l => l.length < 1048577 ∧ ∀ x ∈ l, x.length < 1048577) (fun l => [.sl 1 (l.map EIL.e)])
@[simp] theorem toILLC_at (l : List (List Int)) : toILLC [.sl 1 (l.map EIL.e)] = ((l.length < 1048577 ∧ ∀ x ∈ l, x.length < 1048577), [.sl 1 (l.map EIL.e)]) := ct1_at (A := EILL) l
noncomputable def toILLTb : List (FuncId × Ct) := [(132, .data toILC)]
theorem toILLTb_ok {N : NR} : TbOK N Tryz.prog (tbl toILLTb) := tbl_cons (c := .data toILC) toIL_spec toIL_ok tbl_nil

@[simp] theorem toILLTb1 : tbl toILLTb 132 = some (.data toILC) := rfl
def toILLS (l p q : List (List Int)) : St := ⟨[.dat (.sl 1 (l.map EIL.e)), .any, .any, .row 7, .dat (.lit (.int .i64 p.length)), .any, .any, .any, .any, .any, .any, .any, .any, .any, .any, .any, .any, .any, .any, .any, .any, .any, .any], [none, none, none, none, none, none, none, some (.row 1 122 (p.map EIL.e ++ List.replicate q.length (.lit (.slice none 0 0)))), none, none, none, none, none, none, none, none, none, none, none, none, none, none, none]⟩
theorem toILL_spec {N : NR} : SpecD N Tryz.prog 80 toILLC := by
  refine rd1 (mf := fun f => false) toILLTb_ok (fn := Tryz.f80) (by kernel_rfl) rfl (by kernel_rfl) (by kernel_rfl) ?_
  rintro l hpre
  have hl : l.length < 1048577 := hpre.1
  show awp _ _ _ _ (start _ ([.sl 1 (l.map EIL.e)].map .dat) []) (endK _ _ _ ([D.sl 1 (l.map EIL.e)].map .dat) [])
  simp only [Tryz.f80]
  simp
  refine ⟨by omega, ?_⟩
  refine loop_go (fun n st => ∃ p q, l = p ++ q ∧ n = q.length ∧ st = toILLS l p q) (s0 := toILLS l [] l) (n := l.length) (snd_of (by simp [LeT, toILLS]) (by simp [toILLS])) ⟨[], l, rfl, rfl, rfl⟩ ?_
  rintro n st ⟨p, q, rfl, rfl, rfl⟩ KN hN
  cases q with
  | nil => simp [toILLS]
  | cons v q =>
    obtain ⟨o, ho⟩ : ∃ y, y = v := ⟨v, rfl⟩
    subst ho
    have hea : o.length < 1048577 := hpre.2 o (by simp)
    have e1 : ix (p.map EIL.e ++ .sl 1 (o.map EInt.e) :: q.map EIL.e) p.length = some (.sl 1 (o.map EInt.e)) := ix_mem (by simp)
    have e2 : lset (p.map EIL.e ++ List.replicate (q.length + 1) (.lit (.slice none 0 0))) p.length (.sl 1 (o.map EInt.e)) = p.map EIL.e ++ .sl 1 (o.map EInt.e) :: List.replicate q.length (.lit (.slice none 0 0)) := by
      rw [List.replicate_succ]; exact lset_mem (by simp)
    have e3 : ix (p.map EIL.e ++ List.replicate (q.length + 1) (.lit (.slice none 0 0))) p.length = some (.lit (.slice none 0 0)) := by
      rw [List.replicate_succ]; exact ix_mem (by simp)
    have w1 : IntKind.i64.wrap ((p.length : Int) + 1) = (p.length : Int) + 1 := i64_id _ (by omega) (by simp at hl; omega)
    have e4 : (p.length : Int) < p.length + (q.length + 1) := by omega
    simp [-D.isLit, toILLS, e1, e2, e3, e4, w1, hea]
    refine hN _ (nx (m := q.length) (s'' := toILLS (p ++ o :: q) (p ++ [o]) q) (snd_of (by simp [LeT, toILLS]) (by simp [toILLS])) ⟨p ++ [o], q, by simp, rfl, rfl⟩ (by simp))
theorem toILL_ok : callable Tryz.prog 80 = true := by kernel_rfl

/-! l.toNet -/
def netS (p : NetT) : Prop := p.1.length < 1048577 ∧ (p.2.1.length < 1048577 ∧ ∀ x ∈ p.2.1, x.2.2.length < 1048577) ∧ (p.2.2.length < 1048577 ∧ ∀ x ∈ p.2.2, x.length < 1048577)
noncomputable def toNC := ct1 ENet netS (fun p => [ENet.e p])
@[simp] theorem toNC_at (v : List ((Int × Int) × Int × Int)) (e : List NE) (l : List (List Int)) : toNC [.agg [.sl 4 (v.map EV.e), .sl 3 (e.map ENE.e), .sl 1 (l.map EIL.e)]] = (netS (v, e, l), [.agg [.sl 4 (v.map EV.e), .sl 3 (e.map ENE.e), .sl 1 (l.map EIL.e)]]) := ct1_at (A := ENet) (v, e, l)
noncomputable def toNTb : List (FuncId × Ct) := [(28, .data toVSC), (79, .data toNELC), (80, .data toILLC)]
theorem toNTb_ok {N : NR} : TbOK N Tryz.prog (tbl toNTb) := tbl_cons (c := .data toVSC) toVS_spec toVS_ok (tbl_cons (c := .data toNELC) toNEL_spec toNEL_ok (tbl_cons (c := .data toILLC) toILL_spec toILL_ok tbl_nil))

@[simp] theorem toNTb1 : tbl toNTb 28 = some (.data toVSC) := rfl
@[simp] theorem toNTb2 : tbl toNTb 79 = some (.data toNELC) := rfl
@[simp] theorem toNTb3 : tbl toNTb 80 = some (.data toILLC) := rfl
theorem toN_spec {N : NR} : SpecD N Tryz.prog 33 toNC := by
  refine rd1 (mf := fun f => false) toNTb_ok (fn := Tryz.f33) (by kernel_rfl) rfl (by kernel_rfl) (by kernel_rfl) ?_
  rintro ⟨v, e, l⟩ ⟨h1, h2, h3⟩
  have h1 : v.length < 1048577 := h1
  have h1' : v.length < 4194304 := by omega
  have c1 := toNELC_at e
  rw [eq_true (show e.length < 1048577 ∧ ∀ x ∈ e, x.2.2.length < 1048577 from h2)] at c1
  have c2 := toILLC_at l
  rw [eq_true (show l.length < 1048577 ∧ ∀ x ∈ l, x.length < 1048577 from h3)] at c2
  show awp _ _ _ _ (start _ ([.agg [.sl 4 (v.map EV.e), .sl 3 (e.map ENE.e), .sl 1 (l.map EIL.e)]].map .dat) []) (endK _ _ _ ([.agg [.sl 4 (v.map EV.e), .sl 3 (e.map ENE.e), .sl 1 (l.map EIL.e)]].map .dat) [])
  simp [-D.isLit, -toNELC_at, -toILLC_at, Tryz.f33, h1', c1, c2]
theorem toN_ok : callable Tryz.prog 33 = true := by kernel_rfl

/-! l.eqInt64S -/
noncomputable def eqILC := ct2 EIL EIL (fun l m => (l.length < 4611686018427387904) ∧ l = m) (fun l m => [.lit (.bool true)])
@[simp] theorem eqILC_at (l m : List (Int)) : eqILC [.sl 1 (l.map EInt.e), .sl 1 (m.map EInt.e)] = (((l.length < 4611686018427387904) ∧ l = m), [.lit (.bool true)]) := ct2_at (A := EIL) (B := EIL) l m
def eqILS (l : List (Int)) (k : Nat) : St := ⟨[.dat (.sl 1 (l.map EInt.e)), .dat (.sl 1 (l.map EInt.e)), .any, .any, .any, .dat (.lit (.int .i64 k)), .any, .any, .any, .any, .any, .any, .any, .any, .any, .any, .any, .any, .any, .any, .any, .any, .any, .any, .any, .any], [none, none, none, none, none, none, none, none, none, none, none, none, none, none, none, none, none, none, none, none, none, none, none, none, none, none]⟩
theorem eqIL_spec {N : NR} : SpecD N Tryz.prog 140 eqILC := by
  refine rd2 (mf := fun f => false) (tb := tbl []) tbl_nil (fn := Tryz.f140) (by kernel_rfl) rfl (by kernel_rfl) (by kernel_rfl) ?_
  rintro l m ⟨hpre, hm⟩
  have hm : l = m := hm
  subst hm
  have hl : l.length < 4611686018427387904 := hpre
  show awp _ _ _ _ (start _ ([.sl 1 (l.map EInt.e), .sl 1 (l.map EInt.e)].map .dat) []) (endK _ _ _ ([D.lit (.bool true)].map .dat) [])
  simp only [Tryz.f140]
  simp
  refine loop_go (fun n st => ∃ k, n = l.length - k ∧ k ≤ l.length ∧ st = eqILS l k) (s0 := eqILS l 0) (n := l.length) (snd_of (by simp [LeT, eqILS]) (by simp [eqILS])) ⟨0, rfl, Nat.zero_le _, rfl⟩ ?_
  rintro n st ⟨k, hn, hk, rfl⟩ KN hN
  by_cases h : k < l.length
  · obtain ⟨a, hx, e1, hmem⟩ := int_at h
    have w1 : IntKind.i64.wrap ((k : Int) + 1) = (k : Int) + 1 := i64_id _ (by omega) (by omega)
    simp [-D.isLit, eqILS, h, e1, w1]
    exact hN _ (nx (m := l.length - (k + 1)) (s'' := eqILS l (k + 1)) (snd_of (by simp [LeT, eqILS]) (by simp [eqILS])) ⟨k + 1, rfl, h, rfl⟩ (by omega))
  · have hkl : k = l.length := by omega
    subst hkl
    simp [eqILS]
theorem eqIL_ok : callable Tryz.prog 140 = true := by kernel_rfl

/-! l.eqNetEdge -/
noncomputable def eqNEC := ct2 ENE ENE (fun l m => l.2.2.length < 4611686018427387904 ∧ l = m) (fun l m => [.lit (.bool true)])
@[simp] theorem eqNEC_at (a b : Int) (o : List Int) (c d : Int) (q : List Int) : eqNEC [.agg [.lit (.int .i64 a), .lit (.int .i64 b), .sl 1 (o.map EInt.e)], .agg [.lit (.int .i64 c), .lit (.int .i64 d), .sl 1 (q.map EInt.e)]] = ((o.length < 4611686018427387904 ∧ (a, b, o) = (c, d, q)), [.lit (.bool true)]) := ct2_at (A := ENE) (B := ENE) (a, b, o) (c, d, q)
noncomputable def eqNETb : List (FuncId × Ct) := [(140, .data eqILC)]
theorem eqNETb_ok {N : NR} : TbOK N Tryz.prog (tbl eqNETb) := tbl_cons (c := .data eqILC) eqIL_spec eqIL_ok tbl_nil

@[simp] theorem eqNETb1 : tbl eqNETb 140 = some (.data eqILC) := rfl
theorem eqNE_spec {N : NR} : SpecD N Tryz.prog 139 eqNEC := by
  refine rd2 (mf := fun f => false) eqNETb_ok (fn := Tryz.f139) (by kernel_rfl) rfl (by kernel_rfl) (by kernel_rfl) ?_
  rintro ⟨a, b, o⟩ m ⟨hl, hm⟩
  have hl : o.length < 4611686018427387904 := hl
  subst hm
  show awp _ _ _ _ (start _ ([.agg [.lit (.int .i64 a), .lit (.int .i64 b), .sl 1 (o.map EInt.e)], .agg [.lit (.int .i64 a), .lit (.int .i64 b), .sl 1 (o.map EInt.e)]].map .dat) []) (endK _ _ _ ([D.lit (.bool true)].map .dat) [])
  simp [-D.isLit, Tryz.f139, hl]
theorem eqNE_ok : callable Tryz.prog 139 = true := by kernel_rfl

/-! l.eqNetEdgeS -/
noncomputable def eqNELC := ct2 ENEL ENEL (fun l m => (l.length < 4611686018427387904 ∧ ∀ x ∈ l, x.2.2.length < 4611686018427387904) ∧ l = m) (fun l m => [.lit (.bool true)])
@[simp] theorem eqNELC_at (l m : List (NE)) : eqNELC [.sl 3 (l.map ENE.e), .sl 3 (m.map ENE.e)] = (((l.length < 4611686018427387904 ∧ ∀ x ∈ l, x.2.2.length < 4611686018427387904) ∧ l = m), [.lit (.bool true)]) := ct2_at (A := ENEL) (B := ENEL) l m
noncomputable def eqNELTb : List (FuncId × Ct) := [(139, .data eqNEC)]
theorem eqNELTb_ok {N : NR} : TbOK N Tryz.prog (tbl eqNELTb) := tbl_cons (c := .data eqNEC) eqNE_spec eqNE_ok tbl_nil

@[simp] theorem eqNELTb1 : tbl eqNELTb 139 = some (.data eqNEC) := rfl
def eqNELS (l : List (NE)) (k : Nat) : St := ⟨[.dat (.sl 3 (l.map ENE.e)), .dat (.sl 3 (l.map ENE.e)), .any, .any, .any, .dat (.lit (.int .i64 k)), .any, .any, .any, .any, .any, .any, .any, .any, .any, .any, .any, .any, .any, .any, .any, .any, .any, .any, .any, .any, .any], [none, none, none, none, none, none, none, none, none, none, none, none, none, none, none, none, none, none, none, none, none, none, none, none, none, none, none]⟩
theorem eqNEL_spec {N : NR} : SpecD N Tryz.prog 85 eqNELC := by
  refine rd2 (mf := fun f => false) eqNELTb_ok (fn := Tryz.f85) (by kernel_rfl) rfl (by kernel_rfl) (by kernel_rfl) ?_
  rintro l m ⟨hpre, hm⟩
  have hm : l = m := hm
  subst hm
  have hl : l.length < 4611686018427387904 := hpre.1
  show awp _ _ _ _ (start _ ([.sl 3 (l.map ENE.e), .sl 3 (l.map ENE.e)].map .dat) []) (endK _ _ _ ([D.lit (.bool true)].map .dat) [])
  simp only [Tryz.f85]
  simp
  refine loop_go (fun n st => ∃ k, n = l.length - k ∧ k ≤ l.length ∧ st = eqNELS l k) (s0 := eqNELS l 0) (n := l.length) (snd_of (by simp [LeT, eqNELS]) (by simp [eqNELS])) ⟨0, rfl, Nat.zero_le _, rfl⟩ ?_
  rintro n st ⟨k, hn, hk, rfl⟩ KN hN
  by_cases h : k < l.length
  · obtain ⟨a, b, o, hx, e1, hmem⟩ := ne_at h
    have hea : o.length < 4611686018427387904 := hpre.2 _ hmem
    have w1 : IntKind.i64.wrap ((k : Int) + 1) = (k : Int) + 1 := i64_id _ (by omega) (by omega)
    simp [-D.isLit, eqNELS, h, e1, w1, hea]
    exact hN _ (nx (m := l.length - (k + 1)) (s'' := eqNELS l (k + 1)) (snd_of (by simp [LeT, eqNELS]) (by simp [eqNELS])) ⟨k + 1, rfl, h, rfl⟩ (by omega))
  · have hkl : k = l.length := by omega
    subst hkl
    simp [eqNELS]
theorem eqNEL_ok : callable Tryz.prog 85 = true := by kernel_rfl

/-! l.eqInt64SS -/
noncomputable def eqILLC := ct2 EILL EILL (fun l m => (l.length < 4611686018427387904 ∧ ∀ x ∈ l, x.length < 4611686018427387904) ∧ l = m) (fun l m => [.lit (.bool true)])
@[simp] theorem eqILLC_at (l m : List (List Int)) : eqILLC [.sl 1 (l.map EIL.e), .sl 1 (m.map EIL.e)] = (((l.length < 4611686018427387904 ∧ ∀ x ∈ l, x.length < 4611686018427387904) ∧ l = m), [.lit (.bool true)]) := ct2_at (A := EILL) (B := EILL) l m
noncomputable def eqILLTb : List (FuncId × Ct) := [(140, .data eqILC)]
theorem eqILLTb_ok {N : NR} : TbOK N Tryz.prog (tbl eqILLTb) := tbl_cons (c := .data eqILC) eqIL_spec eqIL_ok tbl_nil

@[simp] theorem eqILLTb1 : tbl eqILLTb 140 = some (.data eqILC) := rfl
def eqILLS (l : List (List Int)) (k : Nat) : St := ⟨[.dat (.sl 1 (l.map EIL.e)), .dat (.sl 1 (l.map EIL.e)), .any, .any, .any, .dat (.lit (.int .i64 k)), .any, .any, .any, .any, .any, .any, .any, .any, .any, .any, .any, .any, .any, .any, .any, .any, .any, .any, .any, .any, .any], [none, none, none, none, none, none, none, none, none, none, none, none, none, none, none, none, none, none, none, none, none, none, none, none, none, none, none]⟩
theorem eqILL_spec {N : NR} : SpecD N Tryz.prog 86 eqILLC := by
  refine rd2 (mf := fun f => false) eqILLTb_ok (fn := Tryz.f86) (by kernel_rfl) rfl (by kernel_rfl) (by kernel_rfl) ?_
  rintro l m ⟨hpre, hm⟩
  have hm : l = m := hm
  subst hm
  have hl : l.length < 4611686018427387904 := hpre.1
  show awp _ _ _ _ (start _ ([.sl 1 (l.map EIL.e), .sl 1 (l.map EIL.e)].map .dat) []) (endK _ _ _ ([D.lit (.bool true)].map .dat) [])
  simp only [Tryz.f86]
  simp
  refine loop_go (fun n st => ∃ k, n = l.length - k ∧ k ≤ l.length ∧ st = eqILLS l k) (s0 := eqILLS l 0) (n := l.length) (snd_of (by simp [LeT, eqILLS]) (by simp [eqILLS])) ⟨0, rfl, Nat.zero_le _, rfl⟩ ?_
  rintro n st ⟨k, hn, hk, rfl⟩ KN hN
  by_cases h : k < l.length
  · obtain ⟨o, hx, e1, hmem⟩ := il_at h
    have hea : o.length < 4611686018427387904 := hpre.2 _ hmem
    have w1 : IntKind.i64.wrap ((k : Int) + 1) = (k : Int) + 1 := i64_id _ (by omega) (by omega)
    simp [-D.isLit, eqILLS, h, e1, w1, hea]
    exact hN _ (nx (m := l.length - (k + 1)) (s'' := eqILLS l (k + 1)) (snd_of (by simp [LeT, eqILLS]) (by simp [eqILLS])) ⟨k + 1, rfl, h, rfl⟩ (by omega))
  · have hkl : k = l.length := by omega
    subst hkl
    simp [eqILLS]
theorem eqILL_ok : callable Tryz.prog 86 = true := by kernel_rfl

/-! l.eqNet -/
theorem lt62 {n : Nat} (h : n < 1048577) : n < 4611686018427387904 := by omega
noncomputable def eqNC := ct2 ENet ENet (fun p q => netS p ∧ p = q) (fun p q => [.lit (.bool true)])
@[simp] theorem eqNC_at (v : List ((Int × Int) × Int × Int)) (e : List NE) (l : List (List Int)) (p : List ((Int × Int) × Int × Int)) (q : List NE) (r : List (List Int)) : eqNC [.agg [.sl 4 (v.map EV.e), .sl 3 (e.map ENE.e), .sl 1 (l.map EIL.e)], .agg [.sl 4 (p.map EV.e), .sl 3 (q.map ENE.e), .sl 1 (r.map EIL.e)]] = ((netS (v, e, l) ∧ (v, e, l) = (p, q, r)), [.lit (.bool true)]) := ct2_at (A := ENet) (B := ENet) (v, e, l) (p, q, r)
noncomputable def eqNTb : List (FuncId × Ct) := [(30, .data eqVSC), (85, .data eqNELC), (86, .data eqILLC)]
theorem eqNTb_ok {N : NR} : TbOK N Tryz.prog (tbl eqNTb) := tbl_cons (c := .data eqVSC) eqVS_spec eqVS_ok (tbl_cons (c := .data eqNELC) eqNEL_spec eqNEL_ok (tbl_cons (c := .data eqILLC) eqILL_spec eqILL_ok tbl_nil))

@[simp] theorem eqNTb1 : tbl eqNTb 30 = some (.data eqVSC) := rfl
@[simp] theorem eqNTb2 : tbl eqNTb 85 = some (.data eqNELC) := rfl
@[simp] theorem eqNTb3 : tbl eqNTb 86 = some (.data eqILLC) := rfl
theorem eqN_spec {N : NR} : SpecD N Tryz.prog 35 eqNC := by
  refine rd2 (mf := fun f => false) eqNTb_ok (fn := Tryz.f35) (by kernel_rfl) rfl (by kernel_rfl) (by kernel_rfl) ?_
  rintro ⟨v, e, l⟩ m ⟨⟨h1, h2, h3⟩, hm⟩
  subst hm
  have h1 : v.length < 1048577 := h1
  have h1' : v.length < 4611686018427387904 := by omega
  have h2 : e.length < 1048577 ∧ ∀ x ∈ e, x.2.2.length < 1048577 := h2
  have h3 : l.length < 1048577 ∧ ∀ x ∈ l, x.length < 1048577 := h3
  have c1 := eqNELC_at e e
  rw [eq_true (⟨⟨lt62 h2.1, fun x hx => lt62 (h2.2 x hx)⟩, rfl⟩ : (e.length < 4611686018427387904 ∧ ∀ x ∈ e, x.2.2.length < 4611686018427387904) ∧ e = e)] at c1
  have c2 := eqILLC_at l l
  rw [eq_true (⟨⟨lt62 h3.1, fun x hx => lt62 (h3.2 x hx)⟩, rfl⟩ : (l.length < 4611686018427387904 ∧ ∀ x ∈ l, x.length < 4611686018427387904) ∧ l = l)] at c2
  show awp _ _ _ _ (start _ ([.agg [.sl 4 (v.map EV.e), .sl 3 (e.map ENE.e), .sl 1 (l.map EIL.e)], .agg [.sl 4 (v.map EV.e), .sl 3 (e.map ENE.e), .sl 1 (l.map EIL.e)]].map .dat) []) (endK _ _ _ ([D.lit (.bool true)].map .dat) [])
  simp [-D.isLit, -eqNELC_at, -eqILLC_at, Tryz.f35, h1', c1, c2]
theorem eqN_ok : callable Tryz.prog 35 = true := by kernel_rfl
theorem shp_three {P : Program} {n : Nat} {t : TypeId} {f g h : Field} {d : D} (hu : P.underlying t = some (.struct #[f, g, h])) (hs : shp P (n + 1) t d) : ∃ x y z, d = .agg [x, y, z] ∧ shp P n f.type x ∧ shp P n g.type y ∧ shp P n h.type z := by
  simp only [shp, hu] at hs
  obtain ⟨ds, rfl, hl, hf⟩ := hs
  match ds, hl with
  | [x, y, z], _ => exact ⟨x, y, z, rfl, hf 0 f x rfl rfl, hf 1 g y rfl rfl, hf 2 h z rfl rfl⟩
set_option maxRecDepth 100000 in
theorem shp_IL {n : Nat} {d : D} (h : shp Tryz.prog (n + 2) 122 d) : ∃ l, d = EIL.e l ∧ l.length ≤ lmax ∧ ∀ v ∈ l, I64 v := by
  obtain ⟨xs, rfl, hl, hx⟩ := shp_sl (P := Tryz.prog) (n := n + 1) (t := 122) (d := d) Tryz.underlying122 h
  obtain ⟨l, rfl, hp⟩ := list_map (E := EInt.e) (p := I64) (fun x hx' => by
    obtain ⟨a, e, ha⟩ := shp_i64 Tryz.underlying2 (hx x hx')
    exact ⟨a, e, ha⟩)
  exact ⟨l, by simp, by have := hl; rw [List.length_map] at this; exact this, hp⟩
def NE64 (e : NE) : Prop := (I64 e.1 ∧ I64 e.2.1) ∧ e.2.2.length ≤ lmax
set_option maxRecDepth 100000 in
theorem shp_NE {n : Nat} {d : D} (h : shp Tryz.prog (n + 3) 175 d) : ∃ e, d = ENE.e e ∧ NE64 e := by
  obtain ⟨x, y, z, rfl, hx, hy, hz⟩ := shp_three (P := Tryz.prog) (n := n + 2) (t := 175) (d := d) Tryz.underlying175 h
  obtain ⟨a, rfl, ha⟩ := shp_i64 Tryz.underlying2 hx
  obtain ⟨b, rfl, hb⟩ := shp_i64 Tryz.underlying2 hy
  obtain ⟨o, rfl, ho, _⟩ := shp_IL hz
  exact ⟨(a, b, o), rfl, ⟨ha, hb⟩, ho⟩
set_option maxRecDepth 100000 in
theorem shp_NEL {n : Nat} {d : D} (h : shp Tryz.prog (n + 4) 53 d) : ∃ l, d = ENEL.e l ∧ l.length ≤ lmax ∧ ∀ v ∈ l, NE64 v := by
  obtain ⟨xs, rfl, hl, hx⟩ := shp_sl (P := Tryz.prog) (n := n + 3) (t := 53) (d := d) Tryz.underlying53 h
  obtain ⟨l, rfl, hp⟩ := list_map (E := ENE.e) (p := NE64) (fun x hx' => shp_NE (hx x hx'))
  exact ⟨l, by simp, by have := hl; rw [List.length_map] at this; exact this, hp⟩
set_option maxRecDepth 100000 in
theorem shp_ILL {n : Nat} {d : D} (h : shp Tryz.prog (n + 3) 54 d) : ∃ l, d = EILL.e l ∧ l.length ≤ lmax ∧ ∀ v ∈ l, v.length ≤ lmax ∧ ∀ x ∈ v, I64 x := by
  obtain ⟨xs, rfl, hl, hx⟩ := shp_sl (P := Tryz.prog) (n := n + 2) (t := 54) (d := d) Tryz.underlying54 h
  obtain ⟨l, rfl, hp⟩ := list_map (E := EIL.e) (p := fun v => v.length ≤ lmax ∧ ∀ x ∈ v, I64 x) (fun x hx' => shp_IL (hx x hx'))
  exact ⟨l, by simp, by have := hl; rw [List.length_map] at this; exact this, hp⟩
def net64 (p : NetT) : Prop := (p.1.length ≤ lmax ∧ ∀ v ∈ p.1, V64 v) ∧ (p.2.1.length ≤ lmax ∧ ∀ v ∈ p.2.1, NE64 v) ∧ (p.2.2.length ≤ lmax ∧ ∀ v ∈ p.2.2, v.length ≤ lmax ∧ ∀ x ∈ v, I64 x)
set_option maxRecDepth 100000 in
theorem shp_Net {n : Nat} {d : D} (h : shp Tryz.prog (n + 5) 56 d) : ∃ p, d = ENet.e p ∧ net64 p := by
  obtain ⟨x, y, z, rfl, hx, hy, hz⟩ := shp_three (P := Tryz.prog) (n := n + 4) (t := 56) (d := d) Tryz.underlying56 h
  obtain ⟨v, rfl, h1, h2⟩ := shp_lVS hx
  obtain ⟨e, rfl, h3, h4⟩ := shp_NEL hy
  obtain ⟨l, rfl, h5, h6⟩ := shp_ILL (n := n + 1) hz
  exact ⟨(v, e, l), rfl, ⟨h1, h2⟩, ⟨h3, h4⟩, h5, h6⟩
end Go.Proofs.YtlniifhdimaliaaGreat.Ae

/-! LoopArea2: both sides, and the law. No condition. -/
namespace Go.Proofs.YtlniifhdimaliaaGreat.Ae
open Go Go.RowKit Go.Proofs.YtlniifhdimaliaaGreat.Dig

theorem crossQ_sz2 (a b c d : Rat) : qsz (crossQ a b c d) ≤ qsz a + qsz b + qsz c + qsz d + 1 := by unfold crossQ; grind [qsz_sub, qsz_mul]
theorem cross_swap2 (a b c d : Rat) : crossQ c d a b = -(crossQ a b c d) := by unfold crossQ; grind
theorem place_at2 {l : List ((Int × Int) × Int × Int)} {k : Nat} (h : k < l.length) : ∃ a b c d, l[k]? = some ((a, b), c, d) ∧ ix (l.map EV.e) k = some (.agg [eQ a b, eQ c d]) ∧ ((a, b), c, d) ∈ l := by
  have hx := List.getElem?_eq_getElem h
  obtain ⟨⟨⟨a, b⟩, c, d⟩, hq⟩ : ∃ q, q = l[k] := ⟨_, rfl⟩
  rw [← hq] at hx
  exact ⟨a, b, c, d, hx, by unfold ix; rw [List.getElem?_map, hx]; rfl, List.mem_of_getElem? hx⟩
/-- What one half of an edge adds. -/
def taQ (v : List ((Int × Int) × Int × Int)) (es : List NE) (h : Int) : Rat := match es[(h / 2).toNat]? with
  | some e => match v[e.1.toNat]?, v[e.2.1.toNat]? with
    | some a, some b => if h % 2 = 1 then -(crossQ (Rat.divInt a.1.1 a.1.2) (Rat.divInt a.2.1 a.2.2) (Rat.divInt b.1.1 b.1.2) (Rat.divInt b.2.1 b.2.2)) else crossQ (Rat.divInt a.1.1 a.1.2) (Rat.divInt a.2.1 a.2.2) (Rat.divInt b.1.1 b.1.2) (Rat.divInt b.2.1 b.2.2)
    | _, _ => 0
  | none => 0
def hT (T : Int → Rat) (l : List Int) (k : Nat) : Rat := match l[k]? with
  | some h => T h
  | none => 0
def laF (T : Int → Rat) (l : List Int) : Nat → Rat
  | 0 => 0
  | k + 1 => laF T l k + hT T l k
theorem taQ_sz {v : List ((Int × Int) × Int × Int)} (hv : ∀ x ∈ v, vOk x) (es : List NE) (h : Int) : qsz (taQ v es h) ≤ 20 := by
  unfold taQ
  split
  · rename_i e he
    split
    · rename_i a b ha hb
      have h1 := vOk_sz (hv a (List.mem_of_getElem? ha))
      have h2 := vOk_sz (hv b (List.mem_of_getElem? hb))
      have h3 := crossQ_sz2 (Rat.divInt a.1.1 a.1.2) (Rat.divInt a.2.1 a.2.2) (Rat.divInt b.1.1 b.1.2) (Rat.divInt b.2.1 b.2.2)
      have h4 := qsz_neg (crossQ (Rat.divInt a.1.1 a.1.2) (Rat.divInt a.2.1 a.2.2) (Rat.divInt b.1.1 b.1.2) (Rat.divInt b.2.1 b.2.2))
      split <;> omega
    · decide +kernel
  · decide +kernel
theorem hT_sz {T : Int → Rat} (hT' : ∀ h, qsz (T h) ≤ 20) (l : List Int) (k : Nat) : qsz (hT T l k) ≤ 20 := by
  unfold hT; split
  · exact hT' _
  · decide +kernel
theorem laF_sz {T : Int → Rat} (hT' : ∀ h, qsz (T h) ≤ 20) (l : List Int) : ∀ k, qsz (laF T l k) ≤ 2 + 30 * k
  | 0 => by unfold laF; decide +kernel
  | k + 1 => by
    have h1 := laF_sz hT' l k
    have h2 := hT_sz hT' l k
    have h3 := qsz_add (laF T l k) (hT T l k)
    unfold laF; omega
def eOk (nv : Nat) (e : NE) : Prop := (0 ≤ e.1 ∧ e.1 < nv) ∧ 0 ≤ e.2.1 ∧ e.2.1 < nv
instance (nv : Nat) (e : NE) : Decidable (eOk nv e) := by unfold eOk; infer_instance
def hOk (ne : Nat) (h : Int) : Prop := 0 ≤ h ∧ h < 2 * ne
instance (ne : Nat) (h : Int) : Decidable (hOk ne h) := by unfold hOk; infer_instance
def wlk (p : NetT) (k : Int) : List Int := (p.2.2[k.toNat]?).getD []
def laOk (p : NetT) (k : Int) : Prop := (p.1.all fun v => decide (vOk v)) = true ∧ (p.2.1.all fun e => decide (eOk p.1.length e)) = true ∧ (0 ≤ k ∧ k < p.2.2.length) ∧ (wlk p k).length ≤ 400 ∧ ((wlk p k).all fun h => decide (hOk p.2.1.length h)) = true
instance (p : NetT) (k : Int) : Decidable (laOk p k) := by unfold laOk; infer_instance
def laI (p : NetT) (k : Int) : Int × Int × Bool := if laOk p k then oq (laF (taQ p.1 p.2.1) (wlk p k) (wlk p k).length) else (0, 0, false)
def netP (p : NetT) : Prop := netS p ∧ net64 p
noncomputable def laC := ct2 ENet EInt (fun p k => netP p ∧ I64 k) (fun p k => d3 (laI p k))
@[simp] theorem laC_at (v : List ((Int × Int) × Int × Int)) (e : List NE) (l : List (List Int)) (k : Int) : laC [.agg [.sl 4 (v.map EV.e), .sl 3 (e.map ENE.e), .sl 1 (l.map EIL.e)], .lit (.int .i64 k)] = ((netP (v, e, l) ∧ I64 k), d3 (laI (v, e, l) k)) := ct2_at (A := ENet) (B := EInt) (v, e, l) k
def zQ2 : D := .agg [.lit (.int .i64 0), .lit (.int .i64 0)]
@[simp] theorem zQ2_size : zQ2.size = 2 := rfl
theorem eOk_bad {nv : Nat} {f u : Int} {o : List Int} (h : ¬ eOk nv (f, u, o)) : f < 0 ∨ (nv : Int) ≤ f ∨ u < 0 ∨ (nv : Int) ≤ u := by
  apply Classical.byContradiction
  intro hh
  exact h ⟨⟨by show 0 ≤ f; omega, by show f < nv; omega⟩, by show 0 ≤ u; omega, by show u < nv; omega⟩

/-! i.LoopArea2 -/
noncomputable def iLaTb : List (FuncId × Ct) := [(72, .data allVC), (81, .data riC), (52, .data pvC), (82, .data crsC), (83, .data rngC), (84, .data raddC), (67, .data rqqC)]
theorem iLaTb_ok {N : NR} : TbOK N Tryz.prog (tbl iLaTb) := tbl_cons (c := .data allVC) allV_spec allV_ok (tbl_cons (c := .data riC) ri_spec ri_ok (tbl_cons (c := .data pvC) pv_spec pv_ok (tbl_cons (c := .data crsC) crs_spec crs_ok (tbl_cons (c := .data rngC) rneg_spec rneg_ok (tbl_cons (c := .data raddC) radd_spec radd_ok (tbl_cons (c := .data rqqC) rqq_spec rqq_ok tbl_nil))))))

@[simp] theorem iLaTb1 : tbl iLaTb 72 = some (.data allVC) := rfl
@[simp] theorem iLaTb2 : tbl iLaTb 81 = some (.data riC) := rfl
@[simp] theorem iLaTb3 : tbl iLaTb 52 = some (.data pvC) := rfl
@[simp] theorem iLaTb4 : tbl iLaTb 82 = some (.data crsC) := rfl
@[simp] theorem iLaTb5 : tbl iLaTb 83 = some (.data rngC) := rfl
@[simp] theorem iLaTb6 : tbl iLaTb 84 = some (.data raddC) := rfl
@[simp] theorem iLaTb7 : tbl iLaTb 67 = some (.data rqqC) := rfl
def laS1 (v : List ((Int × Int) × Int × Int)) (e : List NE) (l : List (List Int)) (k : Int) (i : Nat) : St := ⟨[.any, .dat (.lit (.int .i64 k)), .obj 2 [] 0, .any, .obj 4 [] 0, .any, .dat (.lit (.int .i64 v.length)), .dat (.lit (.int .i64 e.length)), .any, .any, .any, .any, .any, .any, .any, .any, .any, .any, .any, .any, .any, .any, .any, .any, .any, .any, .any, .any, .any, .any, .any, .any, .any, .any, .any, .any, .any, .any, .any, .any, .any, .any, .any, .any, .any, .any, .any, .dat (.sl 3 (e.map ENE.e)), .dat (.lit (.int .i64 e.length)), .dat (.lit (.int .i64 i)), .any, .any, .any, .any, .any, .any, .any, .any, .any, .any, .any, .any, .any, .any, .any, .any, .any, .any, .any, .any, .any, .any, .any, .any, .any, .any, .any, .any, .any, .any, .any, .any, .any, .any, .any, .any, .any, .any, .any, .any, .any, .any, .any, .any, .any, .any, .any, .any, .any, .any, .any, .any, .any, .any, .any, .any, .any, .any, .any, .any, .any, .any, .any, .any, .any, .any, .any, .any, .any, .any, .any, .any, .any, .any, .any, .any, .any, .any, .any], [none, none, some (.box (.agg [.sl 4 (v.map EV.e), .sl 3 (e.map ENE.e), .sl 1 (l.map EIL.e)])), none, some (.box zQ2), none, none, none, none, none, none, none, none, none, none, none, none, none, none, none, none, none, none, none, none, none, none, none, none, none, none, none, none, none, none, none, none, none, none, none, none, none, none, none, none, none, none, none, none, none, none, none, none, none, none, none, none, none, none, none, none, none, none, none, none, none, none, none, none, none, none, none, none, none, none, none, none, none, none, none, none, none, none, none, none, none, none, none, none, none, none, none, none, none, none, none, none, none, none, none, none, none, none, none, none, none, none, none, none, none, none, none, none, none, none, none, none, none, none, none, none, none, none, none, none, none, none, none, none]⟩
def laS2 (v : List ((Int × Int) × Int × Int)) (e : List NE) (l : List (List Int)) (o : List Int) (g : Rat) (j : Nat) : St := ⟨[.any, .any, .obj 2 [] 0, .any, .obj 4 [] 0, .any, .any, .dat (.lit (.int .i64 e.length)), .any, .any, .obj 10 [] 0, .any, .any, .any, .any, .any, .any, .any, .any, .any, .any, .any, .any, .any, .any, .any, .any, .any, .any, .any, .any, .any, .any, .any, .any, .any, .any, .any, .any, .any, .any, .any, .any, .any, .any, .any, .any, .any, .any, .any, .any, .any, .any, .any, .any, .any, .any, .any, .any, .any, .any, .any, .any, .any, .any, .any, .any, .any, .any, .any, .any, .any, .any, .any, .any, .any, .any, .any, .any, .any, .dat (.sl 1 (o.map EInt.e)), .dat (.lit (.int .i64 o.length)), .dat (.lit (.int .i64 j)), .any, .any, .any, .any, .any, .any, .any, .any, .any, .any, .any, .any, .any, .any, .any, .any, .any, .any, .any, .any, .any, .any, .any, .any, .any, .any, .any, .any, .any, .any, .any, .any, .any, .any, .any, .any, .any, .any, .any, .any, .any, .any, .any, .any, .any, .any], [none, none, some (.box (.agg [.sl 4 (v.map EV.e), .sl 3 (e.map ENE.e), .sl 1 (l.map EIL.e)])), none, some (.box zQ2), none, none, none, none, none, some (.box (eRat g)), none, none, none, none, none, none, none, none, none, none, none, none, none, none, none, none, none, none, none, none, none, none, none, none, none, none, none, none, none, none, none, none, none, none, none, none, none, none, none, none, none, none, none, none, none, none, none, none, none, none, none, none, none, none, none, none, none, none, none, none, none, none, none, none, none, none, none, none, none, none, none, none, none, none, none, none, none, none, none, none, none, none, none, none, none, none, none, none, none, none, none, none, none, none, none, none, none, none, none, none, none, none, none, none, none, none, none, none, none, none, none, none, none, none, none, none, none, none]⟩
set_option maxRecDepth 100000 in
set_option maxHeartbeats 4000000 in
theorem iLa_spec {N : NR} : SpecD N Tryz.prog 34 laC := by
  refine rd2 (mf := fun f => f == cel 4) iLaTb_ok (fn := Tryz.f34) (by kernel_rfl) rfl (by kernel_rfl) (by kernel_rfl) ?_
  rintro ⟨v, e, l⟩ k ⟨⟨⟨hv, ⟨he, heo⟩, hll, hlo⟩, ⟨⟨_, hv64⟩, ⟨_, he64⟩, _, hl64⟩⟩, hk⟩
  have hv : v.length < 1048577 := hv
  have he : e.length < 1048577 := he
  have hll : l.length < 1048577 := hll
  have hk : I64 k := hk
  generalize hr : laI (v, e, l) k = r
  show awp _ _ _ _ (start _ ([.agg [.sl 4 (v.map EV.e), .sl 3 (e.map ENE.e), .sl 1 (l.map EIL.e)], .lit (.int .i64 k)].map .dat) []) (endK _ _ _ ((d3 r).map .dat) [])
  simp only [Tryz.f34]
  have c1 := allVC_at v
  rw [eq_true (⟨lt62 hv, hv64⟩ : v.length < 4611686018427387904 ∧ ∀ x ∈ v, V64 x)] at c1
  cases h1 : (v.all fun x => decide (vOk x))
  · rw [h1] at c1
    have er : r = (0, 0, false) := by rw [← hr]; unfold laI; rw [if_neg (fun x => by have := x.1; rw [h1] at this; cases this)]
    subst er
    simp [-D.isLit, -allVC_at, c1, d3, boolD, zQ2, eQ, i64D]
  rw [h1] at c1
  by_cases h2 : k < 0
  · have er : r = (0, 0, false) := by rw [← hr]; unfold laI; rw [if_neg (fun x => by have := x.2.2.1.1; omega)]
    subst er
    simp [-D.isLit, -allVC_at, c1, h2, d3, boolD, zQ2, eQ, i64D]
  by_cases h3 : (l.length : Int) ≤ k
  · have er : r = (0, 0, false) := by rw [← hr]; unfold laI; rw [if_neg (fun x => by have : k < l.length := x.2.2.1.2; omega)]
    subst er
    simp [-D.isLit, -allVC_at, c1, h2, h3, d3, boolD, zQ2, eQ, i64D]
  obtain ⟨o, hx, e1, hmo⟩ := il_at (l := l) (k := k.toNat) (by omega)
  have h0k : 0 ≤ k := by omega
  have hw : wlk (v, e, l) k = o := by unfold wlk; show (l[k.toNat]?).getD [] = o; rw [hx]; rfl
  by_cases h4 : 400 < o.length
  · have er : r = (0, 0, false) := by rw [← hr]; unfold laI; rw [if_neg (fun x => by have := x.2.2.2.1; rw [hw] at this; omega)]
    subst er
    have h4' : (400 : Int) < o.length := by omega
    simp [-D.isLit, -allVC_at, c1, h2, h3, e1, h0k, h4, h4', d3, boolD, zQ2, eQ, i64D]
  have h4' : ¬ (400 : Int) < o.length := by omega
  have h4'' : (o.length : Int) ≤ 400 := by omega
  have hgd : ∀ x ∈ v, vOk x := fun x hx => of_decide_eq_true (List.all_eq_true.1 h1 x hx)
  have hTs := taQ_sz hgd e
  simp [-D.isLit, -allVC_at, c1, h2, h3, e1, h0k, h4, h4', h4'']
  refine loop_go (fun n st => ∃ i, n = e.length - i ∧ i ≤ e.length ∧ (∀ y ∈ e.take i, decide (eOk v.length y) = true) ∧ st = laS1 v e l k i) (s0 := laS1 v e l k 0) (n := e.length) (snd_of (by simp [LeT, laS1]) (by simp [laS1, zQ2])) ⟨0, rfl, Nat.zero_le _, by simp, rfl⟩ ?_
  rintro n st ⟨i, hn, hi, hall, rfl⟩ KN hN
  by_cases h : i < e.length
  · obtain ⟨f, u, o', hx', p1, hmem⟩ := ne_at h
    obtain ⟨a1, a2⟩ := all_drop (fun y => decide (eOk v.length y)) e i _ hx' hall
    have w1 : IntKind.i64.wrap ((i : Int) + 1) = (i : Int) + 1 := i64_id _ (by omega) (by omega)
    by_cases hok : eOk v.length (f, u, o')
    · have a2 := a2 (decide_eq_true hok)
      obtain ⟨⟨q1, q2⟩, q3, q4⟩ := hok
      have q1 : ¬ f < 0 := by show ¬ f < 0; have : 0 ≤ f := q1; omega
      have q2 : ¬ (v.length : Int) ≤ f := by have : f < v.length := q2; omega
      have q3 : ¬ u < 0 := by have : 0 ≤ u := q3; omega
      have q4 : ¬ (v.length : Int) ≤ u := by have : u < v.length := q4; omega
      simp [-D.isLit, laS1, h, p1, q1, q2, q3, q4, w1]
      exact hN _ (nx (m := e.length - (i + 1)) (s'' := laS1 v e l k (i + 1)) (snd_obs (n := 129) [(2, 2, .box (.agg [.sl 4 (v.map EV.e), .sl 3 (e.map ENE.e), .sl 1 (l.map EIL.e)])), (4, 4, .box zQ2)] rfl (by simp) (by simp [laS1])) ⟨i + 1, rfl, h, a2, rfl⟩ (by omega))
    · have a1 := a1 (decide_eq_false hok)
      have er : r = (0, 0, false) := by rw [← hr]; unfold laI; rw [if_neg (fun x => by have := x.2.1; rw [a1] at this; cases this)]
      subst er
      have hb := eOk_bad hok
      by_cases q1 : f < 0
      · simp [-D.isLit, laS1, h, p1, q1, d3, boolD, zQ2, eQ, i64D]
      by_cases q2 : (v.length : Int) ≤ f
      · simp [-D.isLit, laS1, h, p1, q1, q2, d3, boolD, zQ2, eQ, i64D]
      by_cases q3 : u < 0
      · simp [-D.isLit, laS1, h, p1, q1, q2, q3, d3, boolD, zQ2, eQ, i64D]
      have q4 : (v.length : Int) ≤ u := by omega
      simp [-D.isLit, laS1, h, p1, q1, q2, q3, q4, d3, boolD, zQ2, eQ, i64D]
  have hil : i = e.length := by omega
  subst hil
  rw [List.take_length] at hall
  have hae : (e.all fun y => decide (eOk v.length y)) = true := List.all_eq_true.2 hall
  simp [-D.isLit, laS1, e1, h0k]
  have hr : (if (o.all fun h => decide (hOk e.length h)) = true then oq (laF (taQ v e) o o.length) else (0, 0, false)) = r := by
    by_cases hq : (o.all fun h => decide (hOk e.length h)) = true
    · rw [if_pos hq, ← hr]; unfold laI
      have hkl : k < l.length := by omega
      have ho4 : o.length ≤ 400 := by omega
      have hla : laOk (v, e, l) k := ⟨h1, hae, ⟨h0k, hkl⟩, by rw [hw]; exact ho4, by rw [hw]; exact hq⟩
      rw [if_pos hla, hw]
    · rw [if_neg hq, ← hr]; unfold laI
      rw [if_neg (fun x => hq (by have := x.2.2.2.2; rw [hw] at this; exact this))]
  refine loop_go (fun n st => ∃ j, n = o.length - j ∧ j ≤ o.length ∧ (∀ y ∈ o.take j, decide (hOk e.length y) = true) ∧ st = laS2 v e l o (laF (taQ v e) o j) j) (s0 := laS2 v e l o 0 0) (n := o.length) (snd_of (by simp [LeT, laS2]) (by simp [laS2])) ⟨0, rfl, Nat.zero_le _, by simp, rfl⟩ ?_
  rintro n st ⟨j, hn', hj, hallh, rfl⟩ KM hM
  by_cases hjl : j < o.length
  · obtain ⟨hh, hxh, ph, hmh⟩ := int_at hjl
    obtain ⟨b1, b2⟩ := all_drop (fun y => decide (hOk e.length y)) o j _ hxh hallh
    have w1 : IntKind.i64.wrap ((j : Int) + 1) = (j : Int) + 1 := i64_id _ (by omega) (by omega)
    have w2 : IntKind.i64.wrap (2 * (e.length : Int)) = 2 * (e.length : Int) := i64_id _ (by omega) (by omega)
    by_cases hok : hOk e.length hh
    · have b2 := b2 (decide_eq_true hok)
      obtain ⟨k0, k1⟩ := hok
      have k0' : ¬ hh < 0 := by omega
      have k1' : ¬ 2 * (e.length : Int) ≤ hh := by omega
      obtain ⟨f, u, o', hx', p1, hmem⟩ := ne_at (l := e) (k := (hh / 2).toNat) (by omega)
      have hok' := of_decide_eq_true (hall _ hmem)
      obtain ⟨⟨q1, q2⟩, q3, q4⟩ := hok'
      have q1 : 0 ≤ f := q1
      have q2 : f < v.length := q2
      have q3 : 0 ≤ u := q3
      have q4 : u < v.length := q4
      obtain ⟨a1, a2, a3, a4, ha, pa, ma⟩ := place_at2 (l := v) (k := f.toNat) (by omega)
      obtain ⟨d1, d2, d3', d4, hd, pd, md⟩ := place_at2 (l := v) (k := u.toNat) (by omega)
      have oka : qOk a1 a2 ∧ qOk a3 a4 := hgd _ ma
      have okd : qOk d1 d2 ∧ qOk d3' d4 := hgd _ md
      have x1 := qOk_QI oka.1
      have x2 := qOk_QI oka.2
      have x3 := qOk_QI okd.1
      have x4 := qOk_QI okd.2
      have y1 := qOk_64 oka.1
      have y2 := qOk_64 oka.2
      have y3 := qOk_64 okd.1
      have y4 := qOk_64 okd.2
      have z1 := QI_qsz x1
      have z2 := QI_qsz x2
      have z3 := QI_qsz x3
      have z4 := QI_qsz x4
      have hq : hh.tdiv 2 = hh / 2 := Int.tdiv_eq_ediv_of_nonneg k0
      have hm2 : hh.tmod 2 = hh % 2 := Int.tmod_eq_emod_of_nonneg k0
      have w3 : IntKind.i64.wrap (hh / 2) = hh / 2 := i64_id _ (by omega) (by omega)
      have w4 : IntKind.i64.wrap (hh % 2) = hh % 2 := i64_id _ (by omega) (by omega)
      have q0 : 0 ≤ hh / 2 := by omega
      have hc := crossQ_sz2 (Rat.divInt a1 a2) (Rat.divInt a3 a4) (Rat.divInt d1 d2) (Rat.divInt d3' d4)
      have s1 : qsz (Rat.divInt a1 a2) + qsz (Rat.divInt a3 a4) + qsz (Rat.divInt d1 d2) + qsz (Rat.divInt d3' d4) < LM := by rw [LM_val]; omega
      have s2 : qsz (crossQ (Rat.divInt a1 a2) (Rat.divInt a3 a4) (Rat.divInt d1 d2) (Rat.divInt d3' d4)) < MX := by rw [MX_val]; omega
      have hl1 := laF_sz hTs o j
      have ht : hT (taQ v e) o j = if hh % 2 = 1 then -(crossQ (Rat.divInt a1 a2) (Rat.divInt a3 a4) (Rat.divInt d1 d2) (Rat.divInt d3' d4)) else crossQ (Rat.divInt a1 a2) (Rat.divInt a3 a4) (Rat.divInt d1 d2) (Rat.divInt d3' d4) := by
        unfold hT; rw [hxh]; show taQ v e hh = _; unfold taQ; rw [hx']; simp only []; rw [ha, hd]
      have hts := hT_sz hTs o j
      have eb : laF (taQ v e) o (j + 1) = laF (taQ v e) o j + hT (taQ v e) o j := rfl
      have s3 : qsz (laF (taQ v e) o j) + qsz (hT (taQ v e) o j) < MX := by rw [MX_val]; omega
      by_cases hodd : hh % 2 = 1
      · rw [if_pos hodd] at ht
        rw [ht] at s3 eb
        simp [-D.isLit, laS2, hjl, ph, k0', k1', w1, w2, hq, hm2, w3, w4, q0, p1, q1, q3, pa, pd, x1, x2, x3, x4, s1, s2, s3, hodd]
        exact hM _ (nx (m := o.length - (j + 1)) (s'' := laS2 v e l o (laF (taQ v e) o (j + 1)) (j + 1)) (snd_obs (n := 129) [(2, 2, .box (.agg [.sl 4 (v.map EV.e), .sl 3 (e.map ENE.e), .sl 1 (l.map EIL.e)])), (4, 4, .box zQ2), (10, 10, .box (eRat (laF (taQ v e) o (j + 1))))] rfl (by simp [eb]) (by simp [laS2])) ⟨j + 1, rfl, hjl, b2, rfl⟩ (by omega))
      · rw [if_neg hodd] at ht
        rw [ht] at s3 eb
        simp [-D.isLit, laS2, hjl, ph, k0', k1', w1, w2, hq, hm2, w3, w4, q0, p1, q1, q3, pa, pd, x1, x2, x3, x4, s1, s2, s3, hodd]
        exact hM _ (nx (m := o.length - (j + 1)) (s'' := laS2 v e l o (laF (taQ v e) o (j + 1)) (j + 1)) (snd_obs (n := 129) [(2, 2, .box (.agg [.sl 4 (v.map EV.e), .sl 3 (e.map ENE.e), .sl 1 (l.map EIL.e)])), (4, 4, .box zQ2), (10, 10, .box (eRat (laF (taQ v e) o (j + 1))))] rfl (by simp [eb]) (by simp [laS2])) ⟨j + 1, rfl, hjl, b2, rfl⟩ (by omega))
    · have b1 := b1 (decide_eq_false hok)
      rw [if_neg (by rw [b1]; simp)] at hr
      subst hr
      by_cases k0 : hh < 0
      · simp [-D.isLit, laS2, hjl, ph, k0, w2, d3, boolD, zQ2, eQ, i64D]
      · have k1 : 2 * (e.length : Int) ≤ hh := by
          apply Classical.byContradiction
          intro x
          exact hok ⟨by omega, by omega⟩
        simp [-D.isLit, laS2, hjl, ph, k0, k1, w2, d3, boolD, zQ2, eQ, i64D]
  · have hjo : j = o.length := by omega
    subst hjo
    rw [List.take_length] at hallh
    rw [if_pos (List.all_eq_true.2 hallh)] at hr
    subst hr
    simp [-D.isLit, laS2, d3, boolD]
theorem iLa_ok : callable Tryz.prog 34 = true := by kernel_rfl

/-! s.LoopArea2 -/
noncomputable def sLaTb : List (FuncId × Ct) := [(43, .data sVOkC), (76, .data l1rIntC), (46, .data l3pC), (78, .data l3CrossC), (77, .data nAddC), (64, .data nQC)]
theorem sLaTb_ok : TbOK NF Tryz.prog (tbl sLaTb) := tbl_cons (c := .data sVOkC) sVOk_spec sVOk_ok (tbl_cons (c := .data l1rIntC) l1rInt_spec l1rInt_ok (tbl_cons (c := .data l3pC) l3p_spec l3p_ok (tbl_cons (c := .data l3CrossC) l3Cross_spec l3Cross_ok (tbl_cons (c := .data nAddC) nAdd_spec l1rAdd_ok (tbl_cons (c := .data nQC) nQ_spec l1rQ_ok tbl_nil)))))

@[simp] theorem sLaTb1 : tbl sLaTb 43 = some (.data sVOkC) := rfl
@[simp] theorem sLaTb2 : tbl sLaTb 76 = some (.data l1rIntC) := rfl
@[simp] theorem sLaTb3 : tbl sLaTb 46 = some (.data l3pC) := rfl
@[simp] theorem sLaTb4 : tbl sLaTb 78 = some (.data l3CrossC) := rfl
@[simp] theorem sLaTb5 : tbl sLaTb 77 = some (.data nAddC) := rfl
@[simp] theorem sLaTb6 : tbl sLaTb 64 = some (.data nQC) := rfl
def slS0 (v : List ((Int × Int) × Int × Int)) (e : List NE) (l : List (List Int)) (k : Int) (i : Nat) : St := ⟨[.any, .dat (.lit (.int .i64 k)), .obj 2 [] 0, .any, .obj 4 [] 0, .any, .dat (.lit (.int .i64 i)), .any, .any, .any, .any, .any, .any, .any, .any, .any, .any, .any, .any, .any, .any, .any, .any, .any, .any, .any, .any, .any, .any, .any, .any, .any, .any, .any, .any, .any, .any, .any, .any, .any, .any, .any, .any, .any, .any, .any, .any, .any, .any, .any, .any, .any, .any, .any, .any, .any, .any, .any, .any, .any, .any, .any, .any, .any, .any, .any, .any, .any, .any, .any, .any, .any, .any, .any, .any, .any, .any, .any, .any, .any, .any, .any, .any, .any, .any, .any, .any, .any, .any, .any, .any, .any, .any, .any, .any, .any, .any, .any, .any, .any, .any, .any, .any, .any, .any, .any, .any, .any, .any, .any, .any, .any, .any, .any, .any, .any, .any, .any, .any, .any, .any, .any, .any, .any, .any, .any, .any, .any, .any, .any, .any, .any, .any, .any, .any, .any, .any, .any, .any, .any, .any, .any, .any, .any, .any, .any, .any, .any, .any, .any, .any, .any, .any], [none, none, some (.box (.agg [.sl 4 (v.map EV.e), .sl 3 (e.map ENE.e), .sl 1 (l.map EIL.e)])), none, some (.box zQ2), none, none, none, none, none, none, none, none, none, none, none, none, none, none, none, none, none, none, none, none, none, none, none, none, none, none, none, none, none, none, none, none, none, none, none, none, none, none, none, none, none, none, none, none, none, none, none, none, none, none, none, none, none, none, none, none, none, none, none, none, none, none, none, none, none, none, none, none, none, none, none, none, none, none, none, none, none, none, none, none, none, none, none, none, none, none, none, none, none, none, none, none, none, none, none, none, none, none, none, none, none, none, none, none, none, none, none, none, none, none, none, none, none, none, none, none, none, none, none, none, none, none, none, none, none, none, none, none, none, none, none, none, none, none, none, none, none, none, none, none, none, none, none, none, none, none, none, none]⟩
def slS1 (v : List ((Int × Int) × Int × Int)) (e : List NE) (l : List (List Int)) (k : Int) (i : Nat) : St := ⟨[.any, .dat (.lit (.int .i64 k)), .obj 2 [] 0, .any, .obj 4 [] 0, .any, .any, .dat (.lit (.int .i64 v.length)), .dat (.lit (.int .i64 i)), .any, .any, .any, .any, .any, .any, .any, .any, .any, .any, .any, .any, .any, .any, .any, .any, .any, .any, .any, .any, .any, .any, .any, .any, .any, .any, .any, .any, .any, .any, .any, .any, .any, .any, .any, .any, .any, .any, .any, .any, .any, .any, .any, .any, .any, .any, .any, .any, .any, .any, .any, .any, .any, .any, .any, .any, .any, .any, .any, .any, .any, .any, .any, .any, .any, .any, .any, .any, .any, .any, .any, .any, .any, .any, .any, .any, .any, .any, .any, .any, .any, .any, .any, .any, .any, .any, .any, .any, .any, .any, .any, .any, .any, .any, .any, .any, .any, .any, .any, .any, .any, .any, .any, .any, .any, .any, .any, .any, .any, .any, .any, .any, .any, .any, .any, .any, .any, .any, .any, .any, .any, .any, .any, .any, .any, .any, .any, .any, .any, .any, .any, .any, .any, .any, .any, .any, .any, .any, .any, .any, .any, .any, .any, .any], [none, none, some (.box (.agg [.sl 4 (v.map EV.e), .sl 3 (e.map ENE.e), .sl 1 (l.map EIL.e)])), none, some (.box zQ2), none, none, none, none, none, none, none, none, none, none, none, none, none, none, none, none, none, none, none, none, none, none, none, none, none, none, none, none, none, none, none, none, none, none, none, none, none, none, none, none, none, none, none, none, none, none, none, none, none, none, none, none, none, none, none, none, none, none, none, none, none, none, none, none, none, none, none, none, none, none, none, none, none, none, none, none, none, none, none, none, none, none, none, none, none, none, none, none, none, none, none, none, none, none, none, none, none, none, none, none, none, none, none, none, none, none, none, none, none, none, none, none, none, none, none, none, none, none, none, none, none, none, none, none, none, none, none, none, none, none, none, none, none, none, none, none, none, none, none, none, none, none, none, none, none, none, none, none]⟩
def slS2 (v : List ((Int × Int) × Int × Int)) (e : List NE) (l : List (List Int)) (k : Int) (g : Rat) (j : Nat) : St := ⟨[.any, .dat (.lit (.int .i64 k)), .obj 2 [] 0, .any, .obj 4 [] 0, .any, .any, .any, .any, .any, .obj 10 [] 0, .dat (.lit (.int .i64 j)), .any, .any, .any, .any, .any, .any, .any, .any, .any, .any, .any, .any, .any, .any, .any, .any, .any, .any, .any, .any, .any, .any, .any, .any, .any, .any, .any, .any, .any, .any, .any, .any, .any, .any, .any, .any, .any, .any, .any, .any, .any, .any, .any, .any, .any, .any, .any, .any, .any, .any, .any, .any, .any, .any, .any, .any, .any, .any, .any, .any, .any, .any, .any, .any, .any, .any, .any, .any, .any, .any, .any, .any, .any, .any, .any, .any, .any, .any, .any, .any, .any, .any, .any, .any, .any, .any, .any, .any, .any, .any, .any, .any, .any, .any, .any, .any, .any, .any, .any, .any, .any, .any, .any, .any, .any, .any, .any, .any, .any, .any, .any, .any, .any, .any, .any, .any, .any, .any, .any, .any, .any, .any, .any, .any, .any, .any, .any, .any, .any, .any, .any, .any, .any, .any, .any, .any, .any, .any, .any, .any, .any], [none, none, some (.box (.agg [.sl 4 (v.map EV.e), .sl 3 (e.map ENE.e), .sl 1 (l.map EIL.e)])), none, some (.box zQ2), none, none, none, none, none, some (.box (nD g)), none, none, none, none, none, none, none, none, none, none, none, none, none, none, none, none, none, none, none, none, none, none, none, none, none, none, none, none, none, none, none, none, none, none, none, none, none, none, none, none, none, none, none, none, none, none, none, none, none, none, none, none, none, none, none, none, none, none, none, none, none, none, none, none, none, none, none, none, none, none, none, none, none, none, none, none, none, none, none, none, none, none, none, none, none, none, none, none, none, none, none, none, none, none, none, none, none, none, none, none, none, none, none, none, none, none, none, none, none, none, none, none, none, none, none, none, none, none, none, none, none, none, none, none, none, none, none, none, none, none, none, none, none, none, none, none, none, none, none, none, none, none]⟩
set_option maxRecDepth 100000 in
set_option maxHeartbeats 4000000 in
theorem sLa_spec : SpecD NF Tryz.prog 32 laC := by
  refine rd2 (mf := fun f => f == cel 4) sLaTb_ok (fn := Tryz.f32) (by kernel_rfl) rfl (by kernel_rfl) (by kernel_rfl) ?_
  rintro ⟨v, e, l⟩ k ⟨⟨⟨hv, ⟨he, heo⟩, hll, hlo⟩, ⟨⟨_, hv64⟩, ⟨_, he64⟩, _, hl64⟩⟩, hk⟩
  have hv : v.length < 1048577 := hv
  have he : e.length < 1048577 := he
  have hll : l.length < 1048577 := hll
  have hk : I64 k := hk
  generalize hr : laI (v, e, l) k = r
  show awp _ _ _ _ (start _ ([.agg [.sl 4 (v.map EV.e), .sl 3 (e.map ENE.e), .sl 1 (l.map EIL.e)], .lit (.int .i64 k)].map .dat) []) (endK _ _ _ ((d3 r).map .dat) [])
  simp only [Tryz.f32]
  simp [-D.isLit]
  refine loop_go (fun n st => ∃ i, n = v.length - i ∧ i ≤ v.length ∧ (∀ y ∈ v.take i, decide (vOk y) = true) ∧ st = slS0 v e l k i) (s0 := slS0 v e l k 0) (n := v.length) (snd_of (by simp [LeT, slS0]) (by simp [slS0, zQ2])) ⟨0, rfl, Nat.zero_le _, by simp, rfl⟩ ?_
  rintro n st ⟨i, hn, hi, hall, rfl⟩ KN hN
  by_cases h : i < v.length
  · obtain ⟨a, b, c, d, hx', p1, hmem⟩ := place_at2 h
    obtain ⟨a1, a2⟩ := all_drop (fun y => decide (vOk y)) v i _ hx' hall
    obtain ⟨⟨i1, i2⟩, i3, i4⟩ := hv64 _ hmem
    have i1 : I64 a := i1
    have i2 : I64 b := i2
    have i3 : I64 c := i3
    have i4 : I64 d := i4
    have w1 : IntKind.i64.wrap ((i : Int) + 1) = (i : Int) + 1 := i64_id _ (by omega) (by omega)
    by_cases hok : qOk a b ∧ qOk c d
    · have a2 := a2 (decide_eq_true hok)
      simp [-D.isLit, slS0, h, p1, i1, i2, i3, i4, hok.1, hok.2, w1]
      exact hN _ (nx (m := v.length - (i + 1)) (s'' := slS0 v e l k (i + 1)) (snd_obs (n := 153) [(2, 2, .box (.agg [.sl 4 (v.map EV.e), .sl 3 (e.map ENE.e), .sl 1 (l.map EIL.e)])), (4, 4, .box zQ2)] rfl (by simp) (by simp [slS0])) ⟨i + 1, rfl, h, a2, rfl⟩ (by omega))
    · have a1 := a1 (decide_eq_false hok)
      have er : r = (0, 0, false) := by rw [← hr]; unfold laI; rw [if_neg (fun x => by have := x.1; rw [a1] at this; cases this)]
      subst er
      have hok' : (decide (qOk a b) && decide (qOk c d)) = false := by rw [← Bool.decide_and]; exact decide_eq_false hok
      simp [-D.isLit, slS0, h, p1, i1, i2, i3, i4, hok', d3, boolD, zQ2] <;> exact Sub.refl _
  have hil : i = v.length := by omega
  subst hil
  rw [List.take_length] at hall
  have h1 : (v.all fun x => decide (vOk x)) = true := List.all_eq_true.2 hall
  have hgd : ∀ x ∈ v, vOk x := fun x hx => of_decide_eq_true (hall x hx)
  have hTs := taQ_sz hgd e
  simp [-D.isLit, slS0]
  refine loop_go (fun n st => ∃ i, n = e.length - i ∧ i ≤ e.length ∧ (∀ y ∈ e.take i, decide (eOk v.length y) = true) ∧ st = slS1 v e l k i) (s0 := slS1 v e l k 0) (n := e.length) (snd_of (by simp [LeT, slS1]) (by simp [slS1])) ⟨0, rfl, Nat.zero_le _, by simp, rfl⟩ ?_
  clear hN hn hi hall
  rintro n st ⟨i, hn, hi, hall, rfl⟩ KN hN
  by_cases h : i < e.length
  · obtain ⟨f, u, o', hx', p1, hmem⟩ := ne_at h
    obtain ⟨a1, a2⟩ := all_drop (fun y => decide (eOk v.length y)) e i _ hx' hall
    have w1 : IntKind.i64.wrap ((i : Int) + 1) = (i : Int) + 1 := i64_id _ (by omega) (by omega)
    by_cases hok : eOk v.length (f, u, o')
    · have a2 := a2 (decide_eq_true hok)
      obtain ⟨⟨q1, q2⟩, q3, q4⟩ := hok
      have q1 : ¬ f < 0 := by show ¬ f < 0; have : 0 ≤ f := q1; omega
      have q2 : ¬ (v.length : Int) ≤ f := by have : f < v.length := q2; omega
      have q3 : ¬ u < 0 := by have : 0 ≤ u := q3; omega
      have q4 : ¬ (v.length : Int) ≤ u := by have : u < v.length := q4; omega
      simp [-D.isLit, slS1, h, p1, q1, q2, q3, q4, w1]
      exact hN _ (nx (m := e.length - (i + 1)) (s'' := slS1 v e l k (i + 1)) (snd_obs (n := 153) [(2, 2, .box (.agg [.sl 4 (v.map EV.e), .sl 3 (e.map ENE.e), .sl 1 (l.map EIL.e)])), (4, 4, .box zQ2)] rfl (by simp) (by simp [slS1])) ⟨i + 1, rfl, h, a2, rfl⟩ (by omega))
    · have a1 := a1 (decide_eq_false hok)
      have er : r = (0, 0, false) := by rw [← hr]; unfold laI; rw [if_neg (fun x => by have := x.2.1; rw [a1] at this; cases this)]
      subst er
      have hb := eOk_bad hok
      by_cases q1 : f < 0
      · simp [-D.isLit, slS1, h, p1, q1, d3, boolD, zQ2, eQ, i64D]
      by_cases q2 : (v.length : Int) ≤ f
      · simp [-D.isLit, slS1, h, p1, q1, q2, d3, boolD, zQ2, eQ, i64D]
      by_cases q3 : u < 0
      · simp [-D.isLit, slS1, h, p1, q1, q2, q3, d3, boolD, zQ2, eQ, i64D]
      have q4 : (v.length : Int) ≤ u := by omega
      simp [-D.isLit, slS1, h, p1, q1, q2, q3, q4, d3, boolD, zQ2, eQ, i64D]
  have hil : i = e.length := by omega
  subst hil
  rw [List.take_length] at hall
  have hae : (e.all fun y => decide (eOk v.length y)) = true := List.all_eq_true.2 hall
  by_cases h2 : k < 0
  · have er : r = (0, 0, false) := by rw [← hr]; unfold laI; rw [if_neg (fun x => by have := x.2.2.1.1; omega)]
    subst er
    simp [-D.isLit, slS1, h2, d3, boolD, zQ2, eQ, i64D]
  by_cases h3 : (l.length : Int) ≤ k
  · have er : r = (0, 0, false) := by rw [← hr]; unfold laI; rw [if_neg (fun x => by have : k < l.length := x.2.2.1.2; omega)]
    subst er
    simp [-D.isLit, slS1, h2, h3, d3, boolD, zQ2, eQ, i64D]
  obtain ⟨o, hx, e1, hmo⟩ := il_at (l := l) (k := k.toNat) (by omega)
  have h0k : 0 ≤ k := by omega
  have hw : wlk (v, e, l) k = o := by unfold wlk; show (l[k.toNat]?).getD [] = o; rw [hx]; rfl
  by_cases h4 : 400 < o.length
  · have er : r = (0, 0, false) := by rw [← hr]; unfold laI; rw [if_neg (fun x => by have := x.2.2.2.1; rw [hw] at this; omega)]
    subst er
    have h4' : (400 : Int) < o.length := by omega
    simp [-D.isLit, slS1, h2, h3, e1, h0k, h4, h4', d3, boolD, zQ2, eQ, i64D]
  have h4' : ¬ (400 : Int) < o.length := by omega
  have h4'' : (o.length : Int) ≤ 400 := by omega
  have i0 : I64 0 := by unfold I64; omega
  simp [-D.isLit, slS1, h2, h3, e1, h0k, h4, h4', h4'', i0]
  have hr : (if (o.all fun h => decide (hOk e.length h)) = true then oq (laF (taQ v e) o o.length) else (0, 0, false)) = r := by
    by_cases hq : (o.all fun h => decide (hOk e.length h)) = true
    · rw [if_pos hq, ← hr]; unfold laI
      have hkl : k < l.length := by omega
      have ho4 : o.length ≤ 400 := by omega
      have hla : laOk (v, e, l) k := ⟨h1, hae, ⟨h0k, hkl⟩, by rw [hw]; exact ho4, by rw [hw]; exact hq⟩
      rw [if_pos hla, hw]
    · rw [if_neg hq, ← hr]; unfold laI
      rw [if_neg (fun x => hq (by have := x.2.2.2.2; rw [hw] at this; exact this))]
  refine loop_go (fun n st => ∃ j, n = o.length - j ∧ j ≤ o.length ∧ (∀ y ∈ o.take j, decide (hOk e.length y) = true) ∧ st = slS2 v e l k (laF (taQ v e) o j) j) (s0 := slS2 v e l k 0 0) (n := o.length) (snd_of (by simp [LeT, slS2]) (by simp [slS2])) ⟨0, rfl, Nat.zero_le _, by simp, rfl⟩ ?_
  rintro n st ⟨j, hn', hj, hallh, rfl⟩ KM hM
  by_cases hjl : j < o.length
  · obtain ⟨hh, hxh, ph, hmh⟩ := int_at hjl
    obtain ⟨b1, b2⟩ := all_drop (fun y => decide (hOk e.length y)) o j _ hxh hallh
    have w1 : IntKind.i64.wrap ((j : Int) + 1) = (j : Int) + 1 := i64_id _ (by omega) (by omega)
    have w2 : IntKind.i64.wrap (2 * (e.length : Int)) = 2 * (e.length : Int) := i64_id _ (by omega) (by omega)
    by_cases hok : hOk e.length hh
    · have b2 := b2 (decide_eq_true hok)
      obtain ⟨k0, k1⟩ := hok
      have k0' : ¬ hh < 0 := by omega
      have k1' : ¬ 2 * (e.length : Int) ≤ hh := by omega
      obtain ⟨f, u, o', hx', p1, hmem⟩ := ne_at (l := e) (k := (hh / 2).toNat) (by omega)
      have hok' := of_decide_eq_true (hall _ hmem)
      obtain ⟨⟨q1, q2⟩, q3, q4⟩ := hok'
      have q1 : 0 ≤ f := q1
      have q2 : f < v.length := q2
      have q3 : 0 ≤ u := q3
      have q4 : u < v.length := q4
      obtain ⟨a1, a2, a3, a4, ha, pa, ma⟩ := place_at2 (l := v) (k := f.toNat) (by omega)
      obtain ⟨d1, d2, d3', d4, hd, pd, md⟩ := place_at2 (l := v) (k := u.toNat) (by omega)
      have oka : qOk a1 a2 ∧ qOk a3 a4 := hgd _ ma
      have okd : qOk d1 d2 ∧ qOk d3' d4 := hgd _ md
      have y1 := qOk_64 oka.1
      have y2 := qOk_64 oka.2
      have y3 := qOk_64 okd.1
      have y4 := qOk_64 okd.2
      have z1 := QI_qsz (qOk_QI oka.1)
      have z2 := QI_qsz (qOk_QI oka.2)
      have z3 := QI_qsz (qOk_QI okd.1)
      have z4 := QI_qsz (qOk_QI okd.2)
      have hq : hh.tdiv 2 = hh / 2 := Int.tdiv_eq_ediv_of_nonneg k0
      have hm2 : hh.tmod 2 = hh % 2 := Int.tmod_eq_emod_of_nonneg k0
      have w3 : IntKind.i64.wrap (hh / 2) = hh / 2 := i64_id _ (by omega) (by omega)
      have w4 : IntKind.i64.wrap (hh % 2) = hh % 2 := i64_id _ (by omega) (by omega)
      have q0 : 0 ≤ hh / 2 := by omega
      have s1 : qsz (Rat.divInt a1 a2) + qsz (Rat.divInt a3 a4) + qsz (Rat.divInt d1 d2) + qsz (Rat.divInt d3' d4) < LM := by rw [LM_val]; omega
      have s1' : qsz (Rat.divInt d1 d2) + qsz (Rat.divInt d3' d4) + qsz (Rat.divInt a1 a2) + qsz (Rat.divInt a3 a4) < LM := by rw [LM_val]; omega
      have hl1 := laF_sz hTs o j
      have ht : hT (taQ v e) o j = if hh % 2 = 1 then -(crossQ (Rat.divInt a1 a2) (Rat.divInt a3 a4) (Rat.divInt d1 d2) (Rat.divInt d3' d4)) else crossQ (Rat.divInt a1 a2) (Rat.divInt a3 a4) (Rat.divInt d1 d2) (Rat.divInt d3' d4) := by
        unfold hT; rw [hxh]; show taQ v e hh = _; unfold taQ; rw [hx']; simp only []; rw [ha, hd]
      have hts := hT_sz hTs o j
      have eb : laF (taQ v e) o (j + 1) = laF (taQ v e) o j + hT (taQ v e) o j := rfl
      have s3 : qsz (laF (taQ v e) o j) + qsz (hT (taQ v e) o j) < MX := by rw [MX_val]; omega
      by_cases hodd : hh % 2 = 1
      · rw [if_pos hodd, ← cross_swap2] at ht
        rw [ht] at s3 eb
        simp [-D.isLit, slS2, hjl, ph, e1, h0k, k0', k1', w1, w2, hq, hm2, w3, w4, q0, p1, q1, q3, pa, pd, y1, y2, y3, y4, s1, s1', s3, hodd]
        exact hM _ (nx (m := o.length - (j + 1)) (s'' := slS2 v e l k (laF (taQ v e) o (j + 1)) (j + 1)) (snd_obs (n := 153) [(2, 2, .box (.agg [.sl 4 (v.map EV.e), .sl 3 (e.map ENE.e), .sl 1 (l.map EIL.e)])), (4, 4, .box zQ2), (10, 10, .box (nD (laF (taQ v e) o (j + 1))))] rfl (by simp [eb]) (by simp [slS2])) ⟨j + 1, rfl, hjl, b2, rfl⟩ (by omega))
      · rw [if_neg hodd] at ht
        rw [ht] at s3 eb
        simp [-D.isLit, slS2, hjl, ph, e1, h0k, k0', k1', w1, w2, hq, hm2, w3, w4, q0, p1, q1, q3, pa, pd, y1, y2, y3, y4, s1, s1', s3, hodd]
        exact hM _ (nx (m := o.length - (j + 1)) (s'' := slS2 v e l k (laF (taQ v e) o (j + 1)) (j + 1)) (snd_obs (n := 153) [(2, 2, .box (.agg [.sl 4 (v.map EV.e), .sl 3 (e.map ENE.e), .sl 1 (l.map EIL.e)])), (4, 4, .box zQ2), (10, 10, .box (nD (laF (taQ v e) o (j + 1))))] rfl (by simp [eb]) (by simp [slS2])) ⟨j + 1, rfl, hjl, b2, rfl⟩ (by omega))
    · have b1 := b1 (decide_eq_false hok)
      rw [if_neg (by rw [b1]; simp)] at hr
      subst hr
      by_cases k0 : hh < 0
      · simp [-D.isLit, slS2, hjl, ph, e1, h0k, k0, w2, d3, boolD, zQ2, eQ, i64D]
      · have k1 : 2 * (e.length : Int) ≤ hh := by
          apply Classical.byContradiction
          intro x
          exact hok ⟨by omega, by omega⟩
        simp [-D.isLit, slS2, hjl, ph, e1, h0k, k0, k1, w2, d3, boolD, zQ2, eQ, i64D]
  · have hjo : j = o.length := by omega
    subst hjo
    rw [List.take_length] at hallh
    rw [if_pos (List.all_eq_true.2 hallh)] at hr
    subst hr
    simp [-D.isLit, slS2, e1, h0k, d3, boolD]
theorem sLa_ok : callable Tryz.prog 32 = true := by kernel_rfl

/-! l.FnExactLoopArea2 -/
theorem szN_small {p : NetT} (h : 0 ≤ szN p 1048576) : netS p := by
  unfold szN at h
  split at h
  · omega
  · rename_i h1
    split at h
    · omega
    · rename_i h2
      obtain ⟨x1, x2, x3⟩ := szG_le h
      have y := szG_le (Int.not_lt.1 h2)
      have e : szL p.1.length 1048576 = 1048576 - p.1.length := by
        unfold szL at h1 ⊢
        by_cases hc : (1048576 : Int) < p.1.length
        · rw [if_pos hc] at h1; omega
        · rw [if_neg hc]
      rw [e] at y x1 x2 x3 h1
      refine ⟨by omega, ⟨by have := y.1; omega, fun x hx => ?_⟩, by omega, fun x hx => ?_⟩
      · have := y.2.1 x.2.2.length (List.mem_map.2 ⟨x, hx, rfl⟩); omega
      · have := x2 x.length (List.mem_map.2 ⟨x, hx, rfl⟩); omega
noncomputable def lwLaC := ct2 ENet EInt (fun p k => net64 p ∧ I64 k) (fun p k => [.lit (.bool true)])
theorem lwLaC_at (v : List ((Int × Int) × Int × Int)) (e : List NE) (l : List (List Int)) (k : Int) : lwLaC [.agg [.sl 4 (v.map EV.e), .sl 3 (e.map ENE.e), .sl 1 (l.map EIL.e)], .lit (.int .i64 k)] = ((net64 (v, e, l) ∧ I64 k), [.lit (.bool true)]) := ct2_at (A := ENet) (B := EInt) (v, e, l) k
noncomputable def lwLaTb : List (FuncId × Ct) := [(31, .data szNC), (33, .data toNC), (34, .data laC), (32, .data laC), (23, .data eqQC), (35, .data eqNC)]
theorem lwLaTb_ok : TbOK NF Tryz.prog (tbl lwLaTb) := tbl_cons (c := .data szNC) szN_spec szN_ok (tbl_cons (c := .data toNC) toN_spec toN_ok (tbl_cons (c := .data laC) iLa_spec iLa_ok (tbl_cons (c := .data laC) sLa_spec sLa_ok (tbl_cons (c := .data eqQC) eqQ_spec eqQ_ok (tbl_cons (c := .data eqNC) eqN_spec eqN_ok tbl_nil)))))

@[simp] theorem lwLaTb1 : tbl lwLaTb 31 = some (.data szNC) := rfl
@[simp] theorem lwLaTb2 : tbl lwLaTb 33 = some (.data toNC) := rfl
@[simp] theorem lwLaTb3 : tbl lwLaTb 34 = some (.data laC) := rfl
@[simp] theorem lwLaTb4 : tbl lwLaTb 32 = some (.data laC) := rfl
@[simp] theorem lwLaTb5 : tbl lwLaTb 23 = some (.data eqQC) := rfl
@[simp] theorem lwLaTb6 : tbl lwLaTb 35 = some (.data eqNC) := rfl
set_option maxRecDepth 100000 in
theorem lwLa_spec : SpecD NF Tryz.prog 9 lwLaC := by
  refine rd2 (mf := fun f => false) lwLaTb_ok (fn := Tryz.f9) (by kernel_rfl) rfl (by kernel_rfl) (by kernel_rfl) ?_
  rintro ⟨v, e, l⟩ k ⟨h64, hk⟩
  have hk : I64 k := hk
  have hL : netL (v, e, l) := ⟨h64.1.1, ⟨h64.2.1.1, fun x hx => (h64.2.1.2 x hx).2⟩, h64.2.2.1, fun x hx => (h64.2.2.2 x hx).1⟩
  show awp _ _ _ _ (start _ ([.agg [.sl 4 (v.map EV.e), .sl 3 (e.map ENE.e), .sl 1 (l.map EIL.e)], .lit (.int .i64 k)].map .dat) []) (endK _ _ _ ([D.lit (.bool true)].map .dat) [])
  by_cases h : szN (v, e, l) 1048576 < 0
  · simp [-D.isLit, Tryz.f9, hL, h]
  · have hs := szN_small (p := (v, e, l)) (by omega)
    have c1 := laC_at v e l k
    rw [eq_true (⟨⟨hs, h64⟩, hk⟩ : netP (v, e, l) ∧ I64 k)] at c1
    generalize laI (v, e, l) k = r at c1
    simp [-D.isLit, -laC_at, Tryz.f9, hL, h, hs, c1, d3, boolD]
theorem lwLa_ok : callable Tryz.prog 9 = true := by kernel_rfl
set_option maxRecDepth 100000 in
theorem lwLoopArea2_calls {d0 d1 : D} (s0 : shp Tryz.prog 8 56 d0) (s1 : shp Tryz.prog 8 2 d1) {v0 v1 : Value} {w : World} (hrep : RepVs NF (fun b => b < w.heap.size) w [d0, d1] [v0, v1]) :
    Calls Tryz.prog 9 #[v0, v1] w fun e w' => e = .returned (.bool true) ∧ Below w.heap.size w w' := by
  obtain ⟨⟨v, e, l⟩, rfl, hp⟩ := shp_Net (n := 3) s0
  obtain ⟨k, rfl, hk⟩ := shp_i64 (n := 7) Tryz.underlying2 s1
  exact law_callsM lwLa_spec (ds := [.agg [.sl 4 (v.map EV.e), .sl 3 (e.map ENE.e), .sl 1 (l.map EIL.e)], .lit (.int .i64 k)]) (by rw [lwLaC_at]; exact ⟨hp, hk⟩) (by rw [lwLaC_at]; rfl) (vs := [v0, v1]) hrep
end Go.Proofs.YtlniifhdimaliaaGreat.Ae
