/- How what is handed to the law is read as data (out of R1, R2). No condition. -/
import Derived.Test.YtojbfdkpelldoaaZH4
import Derived.OpenShut
import Derived.ChangeArms
import Derived.WideShapes
set_option linter.unusedVariables false
set_option linter.unusedSimpArgs false
namespace Go.Proofs.Ytojbfdkpelldoaa.Ae
open Go Go.RowKit Go.Proofs.Ytojbfdkpelldoaa.Dig
open Go.WideShapes
def layF (P : Program) : List Field → Nat → Nat → Bool
  | [], o, c => o == c
  | f :: fs, o, c => f.offset == o && layF P fs (o + P.cellsOf f.type) c
def layT (P : Program) : Nat → TypeId → Bool
  | 0, _ => false
  | n + 1, t => match P.underlying t with
    | some .bool | some (.int _) | some .string => true
    | some (.struct fs) => layF P fs.toList 0 (P.cellsOf t) && fs.toList.all fun f => layT P n f.type
    | some (.slice e) => Nat.blt 0 (P.cellsOf e) && layT P n e
    | _ => false
theorem list_of {α : Type} {p : Nat → α → Prop} : ∀ n : Nat, (∀ i, i < n → ∃ d, p i d) → ∃ l : List α, l.length = n ∧ ∀ (i : Nat) (d : α), l[i]? = some d → p i d
  | 0, _ => ⟨[], rfl, fun i d h => by simp at h⟩
  | n + 1, h => by
    obtain ⟨d0, h0⟩ := h 0 (by omega)
    obtain ⟨l, hl, hp⟩ := list_of (p := fun i => p (i + 1)) n (fun i hi => h (i + 1) (by omega))
    refine ⟨d0 :: l, by simp [hl], fun i d hd => ?_⟩
    cases i with
    | zero => simp at hd; subst hd; exact h0
    | succ i => exact hp i d (by simpa using hd)
theorem fields_rep {N : NR} {F : Nat → Prop} {w : World} {P : Program} {n : Nat} : ∀ (l : List Field) (o c : Nat) (cs : List Value), layF P l o c = true → cs.length = c - o → o ≤ c →
    (∀ (i : Nat) (f : Field), l[i]? = some f → ∃ d, Rep N F w d ((cs.drop (f.offset - o)).take (P.cellsOf f.type)) ∧ shp P n f.type d ∧ ((cs.drop (f.offset - o)).take (P.cellsOf f.type)).length = P.cellsOf f.type) →
    ∃ (ds : List D) (css : List (List Value)), css.flatten = cs ∧ css.length = ds.length ∧ ds.length = l.length ∧ (∀ (i : Nat) (d : D) (x : List Value), ds[i]? = some d → css[i]? = some x → Rep N F w d x) ∧ ∀ (i : Nat) (f : Field) (x : D), l[i]? = some f → ds[i]? = some x → shp P n f.type x
  | [], o, c, cs, hl, hc, ho, h => by
    simp only [layF, beq_iff_eq] at hl
    subst hl
    rw [Nat.sub_self] at hc
    exact ⟨[], [], (List.eq_nil_of_length_eq_zero hc).symm, rfl, rfl, fun i d x h => by simp at h, fun i f x h => by simp at h⟩
  | f :: l, o, c, cs, hl, hc, ho, h => by
    simp only [layF, Bool.and_eq_true, beq_iff_eq] at hl
    obtain ⟨rfl, hl⟩ := hl
    obtain ⟨d0, r0, s0, e0⟩ := h 0 f rfl
    rw [Nat.sub_self, List.drop_zero] at r0 e0
    have hle : P.cellsOf f.type ≤ cs.length := by
      have := List.length_take_le (P.cellsOf f.type) cs
      rw [List.length_take] at e0
      omega
    have mono : ∀ (l : List Field) (o : Nat), layF P l o c = true → o ≤ c ∧ ∀ g ∈ l, o ≤ g.offset := by
      intro l
      induction l with
      | nil => intro o h; simp only [layF, beq_iff_eq] at h; exact ⟨by omega, fun g hg => by simp at hg⟩
      | cons g l ih =>
        intro o h
        simp only [layF, Bool.and_eq_true, beq_iff_eq] at h
        obtain ⟨i1, i2⟩ := ih _ h.2
        refine ⟨by omega, fun g' hg => ?_⟩
        rcases List.mem_cons.1 hg with rfl | hg
        · omega
        · have := i2 g' hg; omega
    have mo := mono l _ hl
    obtain ⟨ds, css, h1, h2, h3, h4, h5⟩ := fields_rep l (f.offset + P.cellsOf f.type) c (cs.drop (P.cellsOf f.type)) hl (by rw [List.length_drop, hc]; omega) mo.1 (fun i g hg => by
      obtain ⟨d, r, s, e⟩ := h (i + 1) g (by simpa using hg)
      have hgo := mo.2 g (List.mem_of_getElem? hg)
      rw [List.drop_drop]
      have e1 : P.cellsOf f.type + (g.offset - (f.offset + P.cellsOf f.type)) = g.offset - f.offset := by omega
      rw [e1]
      exact ⟨d, r, s, e⟩)
    refine ⟨d0 :: ds, cs.take (P.cellsOf f.type) :: css, by rw [List.flatten_cons, h1, List.take_append_drop], by simp [h2], by simp [h3], fun i d x hd hx => ?_, fun i g x hg hx => ?_⟩
    · cases i with
      | zero => simp at hd hx; subst hd hx; exact r0
      | succ i => exact h4 i d x (by simpa using hd) (by simpa using hx)
    · cases i with
      | zero => simp at hg hx; subst hg hx; exact s0
      | succ i => exact h5 i g x (by simpa using hg) (by simpa using hx)
theorem layF_in {P : Program} {c : Nat} : ∀ (l : List Field) (o : Nat), layF P l o c = true → o ≤ c ∧ ∀ f ∈ l, f.offset + P.cellsOf f.type ≤ c
  | [], o, h => by simp only [layF, beq_iff_eq] at h; exact ⟨by omega, fun f hf => by simp at hf⟩
  | g :: l, o, h => by
    simp only [layF, Bool.and_eq_true, beq_iff_eq] at h
    obtain ⟨i1, i2⟩ := layF_in l _ h.2
    refine ⟨by omega, fun f hf => ?_⟩
    rcases List.mem_cons.1 hf with rfl | hf
    · omega
    · exact i2 f hf
theorem trod_cells {P : Program} {l : List Field} {c i : Nat} {f : Field} {cs : List Value} (hl : layF P l 0 c = true) (hlen : cs.length = c) (hi : l[i]? = some f) : ((cs.drop f.offset).take (P.cellsOf f.type)).length = P.cellsOf f.type := by
  have := (layF_in l 0 hl).2 f (List.mem_of_getElem? hi)
  rw [List.length_take, List.length_drop]
  omega
theorem rep_of_trod {N : NR} {F : Nat → Prop} {H : Type} {enc : TypeId × Value → H} {P : Program} {w : World} {base : Nat} {sp : Nat → Bool} {held : Bool} (hF : ∀ b, base ≤ b → b < w.heap.size → F b) :
    ∀ (n : Nat) {m : Nat} {t : TypeId} {cs : List Value} {x : DataW H × List MemPlace}, layT P n t = true → DataW.trod enc P w base sp held m t cs = some x → ∃ d, Rep N F w d cs ∧ shp P n t d
  | 0, m, t, cs, x, hl, h => by simp [layT] at hl
  | n + 1, m, t, cs, x, hl, h => by
    simp only [layT] at hl
    simp only [shp]
    split at hl
    · rename_i hu
      simp only [hu]
      obtain ⟨b, rfl, _⟩ := DataW.trod_bool hu h
      exact ⟨_, .lit rfl, by exact ⟨b, rfl⟩⟩
    · rename_i k hu
      simp only [hu]
      obtain ⟨b, rfl, _, hw⟩ := DataW.trod_int hu h
      exact ⟨_, .lit rfl, by exact ⟨b, rfl, hw⟩⟩
    · rename_i hu
      simp only [hu]
      obtain ⟨b, rfl, _, hw⟩ := DataW.trod_string hu h
      exact ⟨_, .lit rfl, by exact ⟨b, rfl, hw⟩⟩
    · rename_i fs hu
      simp only [hu]
      obtain ⟨xs, m', _, _, hlen, hxs, hf⟩ := DataW.trod_struct hu h
      rw [Bool.and_eq_true] at hl
      obtain ⟨ds, css, h1, h2, h3, h4, h5⟩ := fields_rep (N := N) (F := F) (w := w) (n := n) fs.toList 0 (P.cellsOf t) cs hl.1 (by omega) (by omega) (fun i f hfi => by
        have hi : fs[i]? = some f := by simpa using hfi
        have hlt : i < xs.length := by rw [hxs]; exact (Array.getElem?_eq_some_iff.1 hi).1
        have hx := hf i f hi
        rw [List.getElem?_eq_getElem hlt] at hx
        obtain ⟨d, r, s⟩ := rep_of_trod hF n (List.all_eq_true.1 hl.2 f (List.mem_of_getElem? hfi)) hx
        exact ⟨d, by simpa using r, s, by
          rw [Nat.sub_zero]
          exact trod_cells hl.1 hlen hfi⟩)
      subst h1
      exact ⟨.agg ds, .agg h2 h4, by exact ⟨ds, rfl, h3, h5⟩⟩
    · rename_i e hu
      simp only [hu]
      rw [Bool.and_eq_true, Nat.blt_eq] at hl
      rcases DataW.trod_slice hu h with ⟨rfl, _⟩ | ⟨a, len, cap, elems, rest, m', _, rfl, _, hb, hlc, hcm, hel, hget, _, _⟩
      · exact ⟨.sl (P.cellsOf e) [], .sl none 0 (fun _ => []) (by simp) (by simp) (fun h => by simp at h) (fun i d h => by simp at h), by exact ⟨[], rfl, by simp, fun x hx => by simp at hx⟩⟩
      · have key : ∀ i, i < len → ∃ es, w.cells? base (a.add (i * P.cellsOf e)) (P.cellsOf e) = some es ∧ ∃ d, Rep N F w d es ∧ shp P n e d := by
          intro i hi
          have := hget i hi
          rw [List.getElem?_eq_getElem (by omega)] at this
          obtain ⟨es, h1, h2⟩ := Option.bind_eq_some_iff.1 this
          exact ⟨es, h1, rep_of_trod hF n hl.2 h2⟩
        obtain ⟨xs, hx1, hx2⟩ := list_of (p := fun i d => Rep N F w d ((w.cells? base (a.add (i * P.cellsOf e)) (P.cellsOf e)).getD []) ∧ shp P n e d) len (fun i hi => by
          obtain ⟨es, h1, d, h2, h3⟩ := key i hi
          exact ⟨d, by rw [h1]; exact h2, h3⟩)
        have hsl : Rep N F w (.sl (P.cellsOf e) xs) [.slice (some a) xs.length cap] := by
          refine .sl (some a) cap (fun i => (w.cells? base (a.add (i * P.cellsOf e)) (P.cellsOf e)).getD []) (by omega) hcm (fun hp => ?_) (fun i d hd => (hx2 i d hd).1)
          obtain ⟨es0, h0, _⟩ := key 0 (by omega)
          obtain ⟨_, l0, c0⟩ := World.cells?_some h0
          have c00 := c0 0 hl.1
          have ha0 : ∀ k, (a.add k).block = a.block := by intro k; unfold Addr.add; split <;> rfl
          have hv : ∃ v, w.cell? a = some v := by
            have : (a.add (0 * P.cellsOf e)).add 0 = a := by simp [Addr.add]
            rw [this] at c00
            rw [c00]
            exact ⟨_, List.getElem?_eq_getElem (by omega)⟩
          obtain ⟨v, hv⟩ := hv
          have hspot : a.spot = none ∧ a.block < w.heap.size := by
            unfold World.cell? at hv
            cases hh : w.heap[a.block]? with
            | none => rw [hh] at hv; simp at hv
            | some ob =>
              refine ⟨?_, (Array.getElem?_eq_some_iff.1 hh).1⟩
              rw [hh] at hv
              cases ob <;> simp at hv
              exact hv.1
          have hae : a = ⟨a.block, a.off, none⟩ := by rw [← hspot.1]
          refine ⟨a.block, a.off, by rw [← hae], hF _ hb hspot.2, fun i hi => ?_⟩
          obtain ⟨es, h1, _⟩ := key i (by omega)
          obtain ⟨_, l1, c1⟩ := World.cells?_some h1
          rw [h1, Option.getD_some]
          refine ⟨l1, fun j v hj => ?_⟩
          have hj' : j < P.cellsOf e := by have := (List.getElem?_eq_some_iff.1 hj).1; omega
          have := c1 j hj'
          rw [hj] at this
          rw [← this]
          congr 1
          rw [hae]
          unfold Addr.add
          by_cases z1 : i * P.cellsOf e = 0 <;> by_cases z2 : j = 0 <;> simp [z1, z2] <;> omega
        rw [hx1] at hsl
        exact ⟨.sl (P.cellsOf e) xs, hsl, by exact ⟨xs, rfl, by omega, fun x hx => by
          obtain ⟨i, hi⟩ := List.getElem?_of_mem hx
          exact (hx2 i x hi).2⟩⟩
    · simp at hl
theorem repV_ok {F : Nat → Prop} {H : Type} {enc : TypeId × Value → H} {P : Program} {w : World} {base : Nat} {sp : Nat → Bool} {held : Bool} (hF : ∀ b, base ≤ b → b < w.heap.size → F b)
    {n : Nat} {t : TypeId} {v : Value} {r : Reach} {b0 : Nat} {x : DataW H × List MemPlace} (hl : layT P n t = true) (hv : Value.okWide P w r b0 t v) {m : Nat} (h : DataW.trod enc P w base sp held m t v.cells.toList = some x) :
    ∃ d, RepV NF F w d v ∧ shp P n t d := by
  obtain ⟨d, hr, hs⟩ := rep_of_trod (N := NF) (F := F) hF n hl h
  refine ⟨d, ?_, hs⟩
  cases n with
  | zero => simp [layT] at hl
  | succ n =>
    simp only [layT] at hl
    simp only [shp] at hs
    have one : d.isAgg = false → v.cells = #[v] → RepV NF F w d v := fun h1 h2 => ⟨[v], by rw [h2] at hr; exact hr, by unfold mkV; rw [h1]; rfl⟩
    split at hl
    · rename_i hu
      rw [hu] at hs
      obtain ⟨b, rfl⟩ := okWide_bool hu hv
      obtain ⟨c, rfl⟩ := hs
      exact one rfl rfl
    · rename_i k hu
      rw [hu] at hs
      obtain ⟨b, rfl⟩ := okWide_int hu hv
      obtain ⟨c, rfl, _⟩ := hs
      exact one rfl rfl
    · rename_i hu
      rw [hu] at hs
      obtain ⟨b, rfl⟩ := okWide_string hu hv
      obtain ⟨c, rfl, _⟩ := hs
      exact one rfl rfl
    · rename_i fs hu
      rw [hu] at hs
      obtain ⟨cs, rfl, _⟩ := okWide_struct hu hv
      obtain ⟨ds, rfl, _⟩ := hs
      exact ⟨cs.toList, by simpa [Value.cells] using hr, by unfold mkV; simp [D.isAgg]⟩
    · rename_i e hu
      rw [hu] at hs
      obtain ⟨a, len, cap, rfl⟩ := okWide_slice hu hv
      obtain ⟨ds, rfl, _⟩ := hs
      exact one rfl rfl
    · simp at hl
theorem repVs_cons {N : NR} {F : Nat → Prop} {w : World} {d : D} {v : Value} {ds : List D} {vs : List Value} (h : RepV N F w d v) (hs : RepVs N F w ds vs) : RepVs N F w (d :: ds) (v :: vs) :=
  ⟨by simp only [List.length_cons]; rw [hs.1], fun i e u h1 h2 => by
    cases i with
    | zero =>
      simp only [List.getElem?_cons_zero, Option.some.injEq] at h1 h2
      subst h1 h2
      exact h
    | succ i => exact hs.2 i e u (by simpa using h1) (by simpa using h2)⟩
end Go.Proofs.Ytojbfdkpelldoaa.Ae
