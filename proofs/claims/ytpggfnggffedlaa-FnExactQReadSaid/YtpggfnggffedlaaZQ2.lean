/- Of our texts what the law leans on, in the order in which they build: B13, B14, B15, B16, B17, B18, B19, B20. No condition. -/
import Derived.Test.YtpggfnggffedlaaZQ1
import Derived.Maps.OwnOps
import Derived.Laws.Strings
import Derived.Deep.LoopGhost
set_option linter.unusedVariables false
set_option linter.unusedSimpArgs false
namespace Go.Proofs.Ytpggfnggffedlaa.Ae
open Go Go.RowKit
variable {P : Program} {mf : FuncId → Bool} {tb : FuncId → Option Ct} {N : NR} {F0 : Nat → Prop} {M0 : Nat → Nat → Prop} {w0 : World} {hv : Nat → Value} {st : St} {a : Act} {w : World} {o : Oper} {next : Act → World → Prop} {Q : Exit → Act → World → Prop}
theorem apply_put (dst : Option Nat) (p : Prop) (x : X) (up : List (Nat × Option Ob)) : st.apply dst ⟨p, x, up⟩ = { (st.put dst x) with ob := St.ups st.ob up } := rfl
theorem store_obj (h : Rel N F0 M0 w0 hv st a w) {t : TypeId} {x y : Operand} (ho : o.op = .store t x y) {ob : Nat} {p : List Nat} {off off' : Nat} {dx d e : D} (e1 : ev st x = .obj ob p off) (e2 : ev st y = .dat dx) (hd : st.wbox? ob = some d) (hnv : nav d p = some (e, off')) (h0 : off' = off)
    (h1 : dx.size = e.size) (h2 : P.cellsOf t = dx.size) (h3 : (P.info? t).isSome = true) (hn : ∀ hv' a' w', Rel N F0 M0 w0 hv' { (st.put o.dst .und) with ob := st.ob.set ob (setBox (st.obj ob) (upd d p dx)) } a' w' → next a' w') : Oper.wp P o a w next Q := by
  subst h0
  obtain ⟨o1, k1, k2, k3⟩ := wbox_isW hd
  have hbx : st.box? ob = some d := by
    unfold St.box?
    rw [k1]
    rcases k3 with rfl | rfl <;> rfl
  have hx := ev_rep h x
  rw [e1] at hx
  obtain ⟨b, hv1, g1⟩ := hx
  have g1 := g1 ⟨_, hbx⟩
  obtain ⟨b', cs, t', g2, hc, hr⟩ := box_rep h hbx
  rw [g1] at g2
  injection g2 with g2
  injection g2 with g2
  injection g2 with g2
  subst g2
  have hy := (ev_dat h e2).cells
  have hu := upd_rep p d cs.toList e off' dx _ hr hnv hy h1
  obtain ⟨_, m2⟩ := nav_rep p d cs.toList e off' hr hnv
  have hyl := hy.len
  simp only [Array.length_toList] at hyl m2
  have hrun : (execOp a.eval o).run P w = .ok .skip (w.setRow b (cs.toList.take off' ++ (a.eval y).cells.toList ++ cs.toList.drop (off' + (a.eval y).cells.size)).toArray) := by
    have := run_storeVar (P := P) (t := t) (v := a.eval y) hc (by omega) h3 (by omega : off' + (a.eval y).cells.size ≤ cs.size) (hy.one)
    simp only [execOp, ho, hv1, Instr.storeAt, Instr.sureAddr]
    simp [this]
  refine wp_skip hrun (hn hv _ _ ?_)
  rw [k1]
  obtain ⟨ob', q1, q2, q3⟩ := setBox_like k2 (upd d p dx)
  rw [q1]
  have hFn : ∀ k, Fr F0 w0 hv st w k → k ≠ b := fun k hk e => Fr_live h k1 (like_live q2).1 (by rw [g1]; rfl) (e ▸ hk)
  have hR : Rep N (Fr F0 w0 hv st w) (w.setRow b (cs.toList.take off' ++ (a.eval y).cells.toList ++ cs.toList.drop (off' + (a.eval y).cells.size)).toArray) (upd d p dx) (cs.toList.take off' ++ (a.eval y).cells.toList ++ cs.toList.drop (off' + (a.eval y).cells.size)) := by
    rw [← hyl] at hu
    exact hu.mono (fun k hk => ⟨hk, setRow_other w _ _ _ (hFn k hk)⟩)
  have hcell := setRow_heap w b cs (cs.toList.take off' ++ (a.eval y).cells.toList ++ cs.toList.drop (off' + (a.eval y).cells.size)).toArray t' (0, 0) hc
  exact h.turn k1 q2 (by rw [g1]; rfl) (frame_setRow w b _) (by rcases q3 with rfl | rfl <;> exact ⟨b, _, t', g1, hcell, hR⟩) o.dst
theorem upd_size {F : Nat → Prop} {cs : List Value} {d e x : D} {p : List Nat} {off : Nat} {xs : List Value} (h : Rep N F w d cs) (hn : nav d p = some (e, off)) (hx : Rep N F w x xs) (hs : x.size = e.size) : (cs.take off ++ xs ++ cs.drop (off + x.size)).length = cs.length := by
  obtain ⟨_, m2⟩ := nav_rep p d cs e off h hn
  have := hx.len
  simp only [List.length_append, List.length_take, List.length_drop]
  omega
theorem splice_flat {sz : Nat} : ∀ (css : List (List Value)) (j off : Nat) (c xs : List Value), (∀ (k : Nat) (cs : List Value), css[k]? = some cs → cs.length = sz) → css[j]? = some c → off + xs.length ≤ sz →
    css.flatten.take (j * sz + off) ++ xs ++ css.flatten.drop (j * sz + off + xs.length) = (css.set j (c.take off ++ xs ++ c.drop (off + xs.length))).flatten := by
  intro css j off c xs hl hj hle
  have hc := hl j c hj
  have hnew : (c.take off ++ xs ++ c.drop (off + xs.length)).length = c.length := by
    simp only [List.length_append, List.length_take, List.length_drop]; omega
  have hjl := (List.getElem?_eq_some_iff.1 hj).1
  rw [flatten_set css j c _ hj hnew]
  have ht : (css.take j).flatten.length = j * sz := by
    rw [flatten_length (sz := sz)]
    · rw [List.length_take, Nat.min_eq_left (by omega)]
    · intro k cs hk
      rw [List.getElem?_take] at hk
      split at hk
      · exact hl k cs hk
      · cases hk
  rw [ht, hnew]
  have hcf : (css.flatten.drop (j * sz)).take sz = c := by
    have e1 : css = css.take j ++ c :: css.drop (j + 1) := by
      have e2 : c = css[j] := by rw [List.getElem?_eq_getElem hjl] at hj; exact (Option.some.inj hj).symm
      rw [e2, List.getElem_cons_drop, List.take_append_drop]
    conv => lhs; rw [e1]
    rw [List.flatten_append, ← ht, List.drop_left, List.flatten_cons, ← hc, List.take_left]
  have hlen : j * sz + sz ≤ css.flatten.length := by
    rw [flatten_length css hl, ← Nat.succ_mul]
    exact Nat.mul_le_mul_right _ hjl
  have e1 : css.flatten.take (j * sz + off) = css.flatten.take (j * sz) ++ c.take off := by
    rw [List.take_add]
    congr 1
    rw [← hcf, List.take_take, Nat.min_eq_left (by omega)]
  have e2 : css.flatten.drop (j * sz + off + xs.length) = c.drop (off + xs.length) ++ css.flatten.drop (j * sz + sz) := by
    have := drop_split css.flatten (j * sz) sz (off + xs.length) hlen hle
    rw [hcf] at this
    rw [← this, Nat.add_assoc]
  rw [e1, e2, hc]
  simp only [List.append_assoc]
theorem store_elt (h : Rel N F0 M0 w0 hv st a w) {t : TypeId} {x y : Operand} (ho : o.op = .store t x y) {ob j : Nat} {p : List Nat} {off off' sz : Nat} {e : TypeId} {xs : List D} {dx d e' : D} (e1 : ev st x = .elt ob j p off) (e2 : ev st y = .dat dx) {o1 o2 : Ob} (hob : st.obj ob = some o1) (hoo : (o1 = .row sz e xs ∧ o2 = .row sz e (xs.set j (upd d p dx))) ∨ ∃ cp, o1 = .prow sz e cp xs ∧ o2 = .prow sz e cp (xs.set j (upd d p dx))) (hj : xs[j]? = some d) (hnv : nav d p = some (e', off')) (hds : d.size = sz)
    (h0 : off' = off) (h1 : dx.size = e'.size) (h2 : P.cellsOf t = dx.size) (h3 : (P.info? t).isSome = true) (hn : ∀ hv' a' w', Rel N F0 M0 w0 hv' { (st.put o.dst .und) with ob := st.ob.set ob (some o2) } a' w' → next a' w') : Oper.wp P o a w next Q := by
  subst h0
  have hrow : st.row? ob = some (sz, e, xs) := by unfold St.row?; rw [hob]; rcases hoo with ⟨rfl, _⟩ | ⟨cp, rfl, _⟩ <;> rfl
  have hlv : o1.live = true := by rcases hoo with ⟨rfl, _⟩ | ⟨cp, rfl, _⟩ <;> rfl
  have hx := ev_rep h x
  rw [e1] at hx
  obtain ⟨b, k0, hv1, g1⟩ := hx
  obtain ⟨rfl, n, c, g1⟩ := g1 _ _ _ hrow
  obtain ⟨css, k1, k2, k3⟩ := row_rep h hrow
  have hl : ∀ (k : Nat) (cs : List Value), css[k]? = some cs → cs.length = sz := fun k cs hk => by
    have hk' : k < xs.length := by have := (List.getElem?_eq_some_iff.1 hk).1; omega
    exact (k3 k xs[k] cs (List.getElem?_eq_getElem hk') hk).1
  have hjl := (List.getElem?_eq_some_iff.1 hj).1
  obtain ⟨hlen, hown⟩ := k1
  rcases hown with ⟨_, hz⟩ | ⟨g, cap, cur, hvv, _, hg, hnc, hcm, hcs, htake⟩
  · omega
  · rw [g1] at hvv
    injection hvv with q1 q2 q3
    injection q1 with q1
    injection q1 with q1
    subst q1 q2 q3
    have hcj := List.getElem?_eq_getElem (l := css) (i := j) (by omega)
    have hrj := (k3 j d _ hj hcj).2
    have hlj := hl j _ hcj
    have hy := (ev_dat h e2).cells
    have hyl := hy.len
    simp only [Array.length_toList] at hyl
    obtain ⟨_, m2⟩ := nav_rep p d _ e' off' hrj hnv
    have hu := upd_rep p d _ e' off' dx _ hrj hnv hy h1
    have hle : j * sz + sz ≤ xs.length * sz := by rw [← Nat.succ_mul]; exact Nat.mul_le_mul_right _ hjl
    have hcur : xs.length * sz ≤ cur.size := by rw [hcs]; exact Nat.mul_le_mul_right _ hnc
    have hrun : (execOp a.eval o).run P w = .ok .skip (w.setRow b (cur.toList.take (j * sz + off') ++ (a.eval y).cells.toList ++ cur.toList.drop (j * sz + off' + (a.eval y).cells.size)).toArray) := by
      have := run_storeVar (P := P) (t := t) (v := a.eval y) (off := j * sz + off') hg (by omega) h3 (by omega) (hy.one)
      simp only [execOp, ho, hv1, Instr.storeAt, Instr.sureAddr]
      simp [this]
    refine wp_skip hrun (hn hv _ _ ?_)
    have hFn : ∀ k, Fr F0 w0 hv st w k → k ≠ b := fun k hk ee => Fr_live h hob hlv (by rw [g1]; rfl) (ee ▸ hk)
    have hF : ∀ k, Fr F0 w0 hv st w k → Fr F0 w0 hv st w k ∧ (w.setRow b (cur.toList.take (j * sz + off') ++ (a.eval y).cells.toList ++ cur.toList.drop (j * sz + off' + (a.eval y).cells.size)).toArray).heap[k]? = w.heap[k]? := fun k hk => ⟨hk, setRow_other w _ _ _ (hFn k hk)⟩
    have hcell := setRow_heap w b cur (cur.toList.take (j * sz + off') ++ (a.eval y).cells.toList ++ cur.toList.drop (j * sz + off' + (a.eval y).cells.size)).toArray e (0, 0) hg
    have hsp := splice_flat (sz := sz) css j off' css[j] (a.eval y).cells.toList hl hcj (by rw [Array.length_toList]; omega)
    simp only [Array.length_toList] at hsp
    suffices hO : ∃ css : List (List Value), (w.setRow b (cur.toList.take (j * sz + off') ++ (a.eval y).cells.toList ++ cur.toList.drop (j * sz + off' + (a.eval y).cells.size)).toArray).ownsRow 0 e sz (hv ob) (xs.set j (upd d p dx)).length css.flatten ∧ css.length = (xs.set j (upd d p dx)).length ∧ ∀ (i : Nat) (d1 : D) (cs1 : List Value), (xs.set j (upd d p dx))[i]? = some d1 → css[i]? = some cs1 → cs1.length = sz ∧ Rep N (Fr F0 w0 hv st w) (w.setRow b (cur.toList.take (j * sz + off') ++ (a.eval y).cells.toList ++ cur.toList.drop (j * sz + off' + (a.eval y).cells.size)).toArray) d1 cs1 by
      rcases hoo with ⟨rfl, rfl⟩ | ⟨cp, rfl, rfl⟩
      · exact h.turn (ob' := .row sz e (xs.set j (upd d p dx))) hob ⟨rfl, rfl⟩ (by rw [g1]; rfl) (frame_setRow w b _) hO o.dst
      · obtain ⟨_, hq, _⟩ := h.ob ob _ hob
        obtain ⟨css', k1', k2', k3'⟩ := hO
        exact h.turn (ob' := .prow sz e cp (xs.set j (upd d p dx))) hob ⟨rfl, rfl, rfl, by rw [List.length_set]⟩ (by rw [g1]; rfl) (frame_setRow w b _) ⟨css', ⟨k1', by rw [List.length_set]; exact hq.2⟩, k2', k3'⟩ o.dst
    refine ⟨css.set j (css[j].take off' ++ (a.eval y).cells.toList ++ css[j].drop (off' + (a.eval y).cells.size)), ⟨?_, .inr ⟨b, c, _, ?_, Nat.zero_le _, hcell, ?_, hcm, ?_, ?_⟩⟩, ?_, ?_⟩
    · rw [flatten_length (sz := sz)]
      · simp [k2]
      · intro k cs hk
        rw [List.getElem?_set] at hk
        split at hk
        · split at hk
          · obtain rfl := Option.some.inj hk
            have := upd_size hrj hnv hy h1
            rw [hyl] 
            rw [this]
            exact hlj
          · cases hk
        · exact hl k cs hk
    · rw [List.length_set]; exact g1
    · rw [List.length_set]; exact hnc
    · simp only [List.size_toArray, List.length_append, List.length_take, List.length_drop, Array.length_toList]
      omega
    · rw [List.length_set, ← hsp, ← htake]
      have hL : cur.toList.length = cur.size := by simp
      have f1 : (cur.toList.take (xs.length * sz)).take (j * sz + off') = cur.toList.take (j * sz + off') := by rw [List.take_take, Nat.min_eq_left (by omega)]
      have f2 : (cur.toList.take (xs.length * sz)).drop (j * sz + off' + (a.eval y).cells.size) = (cur.toList.drop (j * sz + off' + (a.eval y).cells.size)).take (xs.length * sz - (j * sz + off' + (a.eval y).cells.size)) := by rw [List.drop_take]
      rw [f1, f2]
      have f3 : (cur.toList.take (j * sz + off') ++ (a.eval y).cells.toList).length = j * sz + off' + (a.eval y).cells.size := by
        simp only [List.length_append, List.length_take, Array.length_toList]; omega
      have f4 : xs.length * sz = (cur.toList.take (j * sz + off') ++ (a.eval y).cells.toList).length + (xs.length * sz - (j * sz + off' + (a.eval y).cells.size)) := by rw [f3]; omega
      conv => lhs; rw [f4]
      rw [List.take_length_add_append]
    · rw [List.length_set, List.length_set, k2]
    · intro i d1 cs1 g3 g4
      rw [List.getElem?_set] at g3 g4
      by_cases hij : j = i
      · subst hij
        have hjc : j < css.length := by omega
        simp only [if_true, hjl, hjc, Option.some.injEq] at g3 g4
        subst g3 g4
        rw [← hyl] at hu
        refine ⟨?_, hu.mono hF⟩
        have := upd_size hrj hnv hy h1
        rw [hyl, this]
        exact hlj
      · rw [if_neg hij] at g3 g4
        exact ⟨(k3 i d1 cs1 g3 g4).1, (k3 i d1 cs1 g3 g4).2.mono hF⟩
theorem litsOf_rep {F : Nat → Prop} {w : World} : ∀ (ds : List D) (vs : List Value) (css : List (List Value)), litsOf ds = some vs → css.length = ds.length → (∀ (i : Nat) (d : D) (cs : List Value), ds[i]? = some d → css[i]? = some cs → Rep N F w d cs) → css.flatten = vs
  | [], vs, css, h, hl, _ => by
    simp [litsOf] at h
    subst h
    have : css = [] := List.length_eq_zero_iff.1 hl
    rw [this]; rfl
  | .lit v :: ds, vs, css, h, hl, hr => by
    unfold litsOf at h
    split at h
    · rename_i r e
      injection h with h
      subst h
      cases css with
      | nil => simp at hl
      | cons c css =>
        have h0 := hr 0 _ c rfl rfl
        cases h0
        rw [List.flatten_cons, litsOf_rep ds r css e (by simpa using hl) (fun i d cs h1 h2 => hr (i + 1) d cs (by simpa using h1) (by simpa using h2))]
        rfl
    · cases h
  | .num _ _ :: _, vs, css, h, _, _ => by simp [litsOf] at h
  | .agg _ :: _, vs, css, h, _, _ => by simp [litsOf] at h
  | .sl _ _ :: _, vs, css, h, _, _ => by simp [litsOf] at h
  | .ptr _ :: _, vs, css, h, _, _ => by simp [litsOf] at h
theorem dValue_rep {F : Nat → Prop} {w : World} {d : D} {u v : Value} (h : RepV N F w d v) (e : dValue d = some u) : v = u := by
  obtain ⟨cs, hr, hv⟩ := h
  cases hr with
  | lit h =>
    simp [dValue] at e
    subst e
    rw [hv]; rfl
  | @agg ds css hl hr =>
    have e : (match litsOf ds with | some vs => some (Value.agg vs.toArray) | none => none) = some u := e
    split at e
    · rename_i vs e2
      injection e with e
      subst e
      rw [hv, litsOf_rep ds vs css e2 hl hr]
      rfl
    · cases e
  | _ => simp [dValue] at e
theorem valD_rep {F : Nat → Prop} {w : World} {v : Value} (h : flatV v = true) : RepV N F w (valD v) v := by
  unfold flatV at h
  split at h
  · rename_i cs
    refine ⟨cs.toList, ?_, by show Value.agg cs = Value.agg cs.toList.toArray; simp⟩
    have e : ∀ l : List Value, l = (l.map fun x => [x]).flatten := by
      intro l
      induction l with
      | nil => rfl
      | cons x l ih => rw [List.map_cons, List.flatten_cons, ← ih]; rfl
    show Rep N F w (.agg (cs.toList.map .lit)) cs.toList
    rw [List.all_eq_true] at h
    have key : Rep N F w (.agg (cs.toList.map .lit)) ((cs.toList.map fun x => [x]).flatten) := by
      refine .agg (by simp) (fun i d c h1 h2 => ?_)
      rw [List.getElem?_map] at h1 h2
      cases hx : cs.toList[i]? with
      | none => rw [hx] at h1; cases h1
      | some x =>
        rw [hx] at h1 h2
        injection h1 with h1; injection h2 with h2
        subst h1 h2
        exact .lit (h x (List.mem_of_getElem? hx))
    rw [← e cs.toList] at key
    exact key
  · have : valD v = .lit v := by
      unfold valD
      split
      · rename_i cs hcs; exact absurd rfl (hcs cs)
      · rfl
    rw [this]
    exact RepV.of_lit h
theorem mp_ob {o : Nat} {I : TypeId × List Value} (h : st.mp? o = some I) : st.obj o = some (.mp I.1 I.2) := by
  unfold St.mp? at h
  split at h
  · rename_i t ks e; injection h with h; subst h; exact e
  · cases h
theorem keyIs_at {t : TypeId} {q : IntKind} (h : keyIs P t q) : ∃ k e, P.underlying t = some (.map k e) ∧ P.underlying k = some (.int q) := by
  unfold keyIs at h
  split at h
  · rename_i k e hu; exact ⟨k, e, hu, h⟩
  · exact h.elim
theorem keysOk_at {q : IntKind} {n : Int} : ∀ (es : List MapEntry), keysOk q n (es.map mpEnt) → ∀ e ∈ es, ∃ x, e.key = .int q x ∧ (Lit.int q x).wf = true ∧ x ≠ n
  | [], _, e, he => by cases he
  | f :: es, h, e, he => by
    obtain ⟨k, v, b⟩ := f
    have h' : keysOk q n (.tuple ⟨[k, v]⟩ :: es.map mpEnt) := h
    cases k <;> simp [keysOk] at h'
    obtain ⟨rfl, h1, h2, h3⟩ := h'
    rcases List.mem_cons.1 he with rfl | he
    · exact ⟨_, rfl, h1, h2⟩
    · exact keysOk_at es h3 e he
theorem frame_block (w : World) (b : Nat) (o : Obj) : Frame0 (fun k => k = b) w (ChangeMaps.setBlock w b o) :=
  ⟨rfl, rfl, rfl, by simp [ChangeMaps.setBlock], fun k _ hk => by
    show (w.heap.setIfInBounds b o)[k]? = _
    rw [Array.getElem?_setIfInBounds]
    simp [show b ≠ k from fun e => hk e.symm]⟩
theorem block_at {w : World} {b : Nat} {o o' : Obj} (h : w.heap[b]? = some o') : (ChangeMaps.setBlock w b o).heap[b]? = some o := by
  have hlt := (Array.getElem?_eq_some_iff.1 h).1
  show (w.heap.setIfInBounds b o)[b]? = _
  rw [Array.getElem?_setIfInBounds]
  simp [hlt]
theorem ins_sound {t : TypeId} {m k v : Operand} (hop : o.op = .insert t m k v) (h : Rel N F0 M0 w0 hv st a w) (hp : (insA P st t (ev st m) (ev st k) (ev st v)).pre)
    (hn : ∀ hv' a' w', Rel N F0 M0 w0 hv' (st.apply o.dst (insA P st t (ev st m) (ev st k) (ev st v))) a' w' → next a' w') : Oper.wp P o a w next Q := by
  unfold insA at hp hn
  split at hp
  · rename_i ob q n d em ek evv
    split at hp
    · rename_i t' ks u eI eu
      simp only [em, ek, evv, eI, eu] at hn
      obtain ⟨⟨rfl, hmt⟩, hkey, hwf, hks⟩ := hp
      have hobj := mp_ob eI
      obtain ⟨b, obj, hblk, hob, hI⟩ := h.ob _ _ hobj
      obtain ⟨⟨b', e⟩, es, clock, rfl, hst, rfl⟩ := hI.map hmt
      have hvb : hv ob = .map (some b) := by
        rw [e] at hblk
        injection hblk with hblk
        rw [e, hblk]
      have hm := ev_rep h m
      rw [em] at hm
      have hm : a.eval m = .map (some b) := (hm ⟨_, eI⟩).trans hvb
      have hk := (ev_lit h ek).1
      have hv' := ev_rep h v
      rw [evv] at hv'
      have hv' := dValue_rep hv' eu
      obtain ⟨kt, et, hu, hku⟩ := keyIs_at hkey
      have K := Maps.int_keyed hku
      have hkl := Maps.keyOf_int_mk hku hwf
      have hall := keysOk_at es.toList hks
      rcases K.find w hkl es.toList (fun x hx => by
        obtain ⟨y, h1, h2, _⟩ := hall x hx
        rw [h1]
        exact ⟨_, Maps.keyOf_int_mk hku h2⟩) with ⟨f1, f2⟩ | ⟨j, e0, _, f2, f3⟩
      · have hrun : (execOp a.eval o).run P w = .ok .skip (ChangeMaps.setBlock w b (.map (es.push ⟨.int q n, u, clock⟩) (clock + 1))) := by
          simp only [execOp, hop, hm, hk, hv']
          simp [Instr.mapUpdate, run_underlying hu, MapKept.run_getObj_map hob, K.check w false hkl, f1, MapKept.run_setObj_map _ hob, Result.andThen, ChangeMaps.setBlock]
        refine wp_skip hrun (hn hv _ _ ?_)
        refine h.turn (ob' := .mp t' (es.toList.map mpEnt ++ [.tuple #[.int q n, u]])) hobj trivial hblk (frame_block w b _) ?_ o.dst
        refine ⟨b, _, hblk, block_at hob, .inl ⟨hmt, ⟨b', e⟩, es.push ⟨.int q n, u, clock⟩, clock + 1, rfl, MapKept.stamped_push hst f2, ?_⟩⟩
        simp [mpEnt]
      · obtain ⟨y, h1, _, h3⟩ := hall e0 (List.mem_of_getElem? f2)
        rw [h1] at f3
        injection f3 with _ f3
        exact absurd f3 h3
    · exact hp.elim
  · exact hp.elim
theorem range_sound {t : TypeId} {x : Operand} {s : Nat} (hop : o.op = .range t x) (hd : o.dst = some s) (h : Rel N F0 M0 w0 hv st a w) (hno : noref st s) (hp : (rangeA P st t (ev st x) s).pre)
    (hn : ∀ hv' a' w', Rel N F0 M0 w0 hv' (st.apply o.dst (rangeA P st t (ev st x) s)) a' w' → next a' w') : Oper.wp P o a w next Q := by
  unfold rangeA at hp hn
  split at hp
  · rename_i ob ex
    split at hp
    · rename_i t' ks eI
      simp only [ex, eI] at hn
      obtain ⟨⟨q, hkey⟩, ⟨rfl, hmt⟩, hne, hs, hlt⟩ := hp
      have hobj := mp_ob eI
      obtain ⟨b, obj, hblk, hob, hI⟩ := h.ob _ _ hobj
      obtain ⟨⟨b', e⟩, es, clock, rfl, hst, rfl⟩ := hI.map hmt
      have hvb : hv ob = .map (some b) := by
        rw [e] at hblk
        injection hblk with hblk
        rw [e, hblk]
      have hm := ev_rep h x
      rw [ex] at hm
      have hm : a.eval x = .map (some b) := (hm ⟨_, eI⟩).trans hvb
      obtain ⟨kt, et, hu, hku⟩ := keyIs_at hkey
      have hrun : (execOp a.eval o).run P w = .ok (.value (.pointer (some ⟨w.heap.size, 0, none⟩))) (w.alloc (.mapIter (some b) clock #[] clock)) := by
        simp only [execOp, hop, hm]
        simp [run_range_map w t' kt et b es clock hu hob]
      have hbl : b < w.heap.size := (Array.getElem?_eq_some_iff.1 hob).1
      obtain ⟨hv', hrel⟩ := h.new' (s := s) (s0 := some ob) (ob := .mp itK (.bool false :: es.toList.map mpEnt)) (v := .pointer (some ⟨w.heap.size, 0, none⟩)) (x := .mpx s) (w' := w.alloc (.mapIter (some b) clock #[] clock)) (M1 := fun _ => False) hs hlt hno (frame_alloc w _) (fun _ h => h.elim)
        (fun k hk => by left; simp only [blkOf, Option.some.injEq] at hk; omega)
        (fun F' q1 q2 q3 => ⟨w.heap.size, _, rfl, heap_alloc_new w _, .inr (.inl ⟨rfl, w.heap.size, b, es, clock, clock, #[], clock, rfl, rfl, q3 ob _ b rfl hobj trivial hblk (by simp [blkOf]; omega), (heap_alloc_old w _ hbl).trans hob, hst, hst.1, Nat.le_refl _, Nat.le_refl _, .inl ⟨rfl, rfl⟩⟩)⟩) trivial (.inr (.inr rfl))
      refine wp_value hrun (hn hv' _ _ ?_)
      rw [hd]
      exact hrel
    · exact hp.elim
  · rename_i str ex
    simp only [ex] at hn
    obtain ⟨hu, hs, hlt⟩ := hp
    have hm := (ev_lit h ex).1
    have hrun : (execOp a.eval o).run P w = .ok (.value (.pointer (some ⟨w.heap.size, 0, none⟩))) (w.alloc (.stringIter str 0)) := by
      simp only [execOp, hop, hm]
      simp [Instr.range, run_underlying hu]
    obtain ⟨hv', hrel⟩ := h.new (s := s) (s0 := none) (ob := .mp itS [.string str, .int .i64 0]) (v := .pointer (some ⟨w.heap.size, 0, none⟩)) (x := .mpx s) (w' := w.alloc (.stringIter str 0)) (M1 := fun _ => False) hs hlt hno (frame_alloc w _) (fun _ h => h.elim)
      (fun k hk => by left; simp only [blkOf, Option.some.injEq] at hk; omega) ⟨w.heap.size, _, rfl, heap_alloc_new w _, .inr (.inr ⟨rfl, _, str, 0, rfl, rfl, rfl⟩)⟩ trivial (.inr (.inr rfl))
    refine wp_value hrun (hn hv' _ _ ?_)
    rw [hd]
    exact hrel
  · exact hp.elim
theorem entry_sound {x : Operand} (hop : o.op = .entry x) (h : Rel N F0 M0 w0 hv st a w) (hp : (entryA st (ev st x)).pre)
    (hn : ∀ hv' a' w', Rel N F0 M0 w0 hv' (st.apply o.dst (entryA st (ev st x))) a' w' → next a' w') : Oper.wp P o a w next Q := by
  unfold entryA at hp hn
  split at hp
  · rename_i ob ex
    split at hp
    · rename_i t k v left eI
      simp only [ex, eI] at hn
      obtain ⟨rfl, hfk, hfv⟩ := hp
      have hobj := mp_ob eI
      obtain ⟨b, obj, hblk, hob, hI⟩ := h.ob _ _ hobj
      rcases hI with ⟨hh, _⟩ | ⟨_, r, m, es, clock, since, seen, c0, hvr, rfl, hFm, hm, hst, hold, hsc, hsk, hcur⟩ | ⟨hh, _⟩
      · cases hh
      · have hbr : b = r := by rw [hvr] at hblk; injection hblk with hblk; exact hblk.symm
        subst hbr
        have hx := ev_rep h x
        rw [ex] at hx
        have hx : a.eval x = .pointer (some ⟨b, 0, none⟩) := (hx ⟨_, eI⟩).trans hvr
        rcases hcur with ⟨_, e⟩ | ⟨e, he, seen', rfl, rfl, eks⟩
        · simp at e
        · have ek : (Value.tuple ⟨[k, v]⟩) = mpEnt e := by simpa using (List.cons.inj eks).1
          unfold mpEnt at ek
          simp at ek
          obtain ⟨rfl, rfl⟩ := ek
          have hrun : (execOp a.eval o).run P w = .ok (.value (.tuple #[e.key, e.val])) w := by
            simp only [execOp, hop, hx]
            simp [run_entry_at w b m since seen' es c0 e hob hm he hst.2.1]
          refine wp_value hrun (hn hv _ _ ?_)
          rw [apply_nil]
          exact h.grow (dst := o.dst) (x := .tup [.dat (valD e.key), .dat (valD e.val)]) (Frame0.refl _ _) ⟨#[e.key, e.val], rfl, rfl, fun i r u h1 h2 => by
            match i with
            | 0 => simp at h1 h2; subst h1 h2; exact valD_rep hfk
            | 1 => simp at h1 h2; subst h1 h2; exact valD_rep hfv
            | i + 2 => simp at h1⟩
      · cases hh
    · exact hp.elim
  · exact hp.elim
theorem run_next_str {w : World} {b pos : Nat} {s : ByteArray} (ty : TypeId) (hob : w.heap[b]? = some (.stringIter s pos)) : (Instr.next (.pointer (some ⟨b, 0, none⟩)) true ty).run P w =
    if pos < s.size then .ok (.tuple #[.bool true, .int .i64 pos, .int .i32 (Utf8.decode s pos).1]) (ChangeMaps.setBlock w b (.stringIter s (pos + (Utf8.decode s pos).2))) else .ok (.tuple #[.bool false]) w := by
  simp only [Instr.next, getObj, setObj, Sem.run_bind, Sem.run, hob, Result.andThen]
  split
  · simp only [Sem.run_bind, Sem.run, hob, Result.andThen, ChangeMaps.setBlock, goInt]
    rfl
  · rfl
theorem nextS_sound {x : Operand} (hop : o.op = .next x true) (h : Rel N F0 M0 w0 hv st a w) (hp : (nextA st (ev st x)).pre)
    (hn : ∀ hv' a' w', Rel N F0 M0 w0 hv' (st.apply o.dst (nextA st (ev st x))) a' w' → next a' w') : Oper.wp P o a w next Q := by
  unfold nextA at hp hn
  split at hp
  · rename_i ob ex
    split at hp
    · rename_i t s p eI
      simp only [ex, eI] at hn
      have hobj := mp_ob eI
      obtain ⟨b, obj, hblk, hob, hI⟩ := h.ob _ _ hobj
      have ht : t = itS := by
        split at hp
        · exact hp.1
        · exact hp.1
      subst ht
      rcases hI with ⟨hh, _⟩ | ⟨hh, _⟩ | ⟨_, r, s', pos, hvr, rfl, eks⟩
      · cases hh
      · cases hh
      · have hbr : b = r := by rw [hvr] at hblk; injection hblk with hblk; exact hblk.symm
        subst hbr
        simp only [List.cons.injEq, Value.string.injEq, Value.int.injEq, true_and, and_true] at eks
        obtain ⟨rfl, rfl⟩ := eks
        have hx := ev_rep h x
        rw [ex] at hx
        have hx : a.eval x = .pointer (some ⟨b, 0, none⟩) := (hx ⟨_, eI⟩).trans hvr
        by_cases hlt : pos < s.size
        · have hd : decide ((pos : Int).toNat < s.size) = true := by simpa using hlt
          rw [hd] at hn
          simp only [Int.toNat_natCast] at hn
          have hrun : (execOp a.eval o).run P w = .ok (.value (.tuple #[.bool true, .int .i64 pos, .int .i32 (Utf8.decode s pos).1])) (ChangeMaps.setBlock w b (.stringIter s (pos + (Utf8.decode s pos).2))) := by
            simp only [execOp, hop, hx]
            simp [run_next_str o.type hob, hlt]
          refine wp_value hrun (hn hv _ _ ?_)
          exact h.turnX (dst := o.dst) (s := ob) (ob := .mp itS [.string s, .int .i64 pos]) (ob' := .mp itS [.string s, .int .i64 (pos + (Utf8.decode s pos).2)]) (b := b) (x := .tup [.dat (.lit (.bool true)), .dat (.lit (.int .i64 pos)), .dat (.lit (.int .i32 (Utf8.decode s pos).1))]) (v := .tuple #[.bool true, .int .i64 pos, .int .i32 (Utf8.decode s pos).1]) hobj trivial hblk (frame_block w b _)
            ⟨b, _, hblk, block_at hob, .inr (.inr ⟨rfl, b, s, pos + (Utf8.decode s pos).2, hvr, rfl, by simp⟩)⟩
            ⟨#[.bool true, .int .i64 pos, .int .i32 (Utf8.decode s pos).1], rfl, rfl, fun i r u h1 h2 => by
              match i with
              | 0 => simp at h1 h2; subst h1 h2; exact RepV.of_lit rfl
              | 1 => simp at h1 h2; subst h1 h2; exact RepV.of_lit rfl
              | 2 => simp at h1 h2; subst h1 h2; exact RepV.of_lit rfl
              | i + 3 => simp at h1⟩
        · have hd : decide ((pos : Int).toNat < s.size) = false := by simpa using hlt
          rw [hd] at hn
          simp only [] at hn
          have hrun : (execOp a.eval o).run P w = .ok (.value (.tuple #[.bool false])) w := by
            simp only [execOp, hop, hx]
            simp [run_next_str o.type hob, hlt]
          refine wp_value hrun (hn hv _ _ ?_)
          rw [apply_nil]
          exact h.grow (dst := o.dst) (x := .tup [.dat (.lit (.bool false))]) (Frame0.refl _ _) ⟨#[.bool false], rfl, rfl, fun i r u h1 h2 => by
            match i with
            | 0 => simp at h1 h2; subst h1 h2; exact RepV.of_lit rfl
            | i + 1 => simp at h1⟩
    · exact hp.elim
  · exact hp.elim
theorem filter_erase {α β : Type} [DecidableEq β] (f : α → β) : ∀ (l : List α), (l.map f).Nodup → ∀ (i : Nat) (e : α), l[i]? = some e → l.filter (fun x => !(decide (f x = f e))) = l.eraseIdx i
  | [], _, i, e, h => by simp at h
  | x :: l, hn, 0, e, h => by
    simp at h
    subst h
    simp only [List.map_cons, List.nodup_cons] at hn
    rw [List.filter_cons]
    simp
    intro a ha
    exact fun e => hn.1 (e ▸ List.mem_map.2 ⟨a, ha, rfl⟩)
  | x :: l, hn, i + 1, e, h => by
    simp only [List.map_cons, List.nodup_cons] at hn
    have h : l[i]? = some e := by simpa using h
    rw [List.filter_cons, if_pos, filter_erase f l hn.2 i e h]
    · rfl
    · have : f x ≠ f e := fun e1 => hn.1 (e1 ▸ List.mem_map.2 ⟨e, List.mem_of_getElem? h, rfl⟩)
      simp [this]
theorem left_push (es : Array MapEntry) (seen : Array Nat) (n : Nat) : (leftOf es (seen.push n)).toList = (leftOf es seen).toList.filter (fun x => !(decide (x.born = n))) := by
  unfold leftOf
  simp only [Array.toList_filter, List.filter_filter]
  congr 1
  funext x
  rw [Array.contains_push]
  cases seen.contains x.born <;> cases h : (x.born == n) <;> simp_all
theorem nextM_sound {x : Operand} {ob : Nat} {c : Value} {left : List Value} (hop : o.op = .next x false) (h : Rel N F0 M0 w0 hv st a w) (ex : ev st x = .mpx ob) (eI : st.mp? ob = some (itK, c :: left))
    (hn0 : left = [] → ∀ w', Rel N F0 M0 w0 hv (st.put o.dst .any) (a.put o.dst (.tuple #[.bool false])) w' → next (a.put o.dst (.tuple #[.bool false])) w')
    (hn1 : ∀ (i : Nat) (k v : Value), left[i]? = some (.tuple ⟨[k, v]⟩) → ∀ w', Rel N F0 M0 w0 hv { (st.put o.dst .any) with ob := st.ob.set ob (some (.mp itK (.tuple ⟨[k, v]⟩ :: left.eraseIdx i))) } (a.put o.dst (.tuple #[.bool true, k, v])) w' → next (a.put o.dst (.tuple #[.bool true, k, v])) w') : Oper.wp P o a w next Q := by
  have hobj := mp_ob eI
  obtain ⟨b, obj, hblk, hob, hI⟩ := h.ob _ _ hobj
  rcases hI with ⟨hh, _⟩ | ⟨_, r, m, es, clock, since, seen, c0, hvr, rfl, hFm, hm, hst, hold, hsc, hsk, hcur⟩ | ⟨hh, _⟩
  · cases hh
  · have hbr : b = r := by rw [hvr] at hblk; injection hblk with hblk; exact hblk.symm
    subst hbr
    have hx := ev_rep h x
    rw [ex] at hx
    have hx : a.eval x = .pointer (some ⟨b, 0, none⟩) := (hx ⟨_, eI⟩).trans hvr
    have hleft : left = (leftOf es seen).toList.map mpEnt := by
      rcases hcur with ⟨rfl, e⟩ | ⟨e, he, seen', rfl, rfl, eks⟩
      · have := (List.cons.inj e).2
        rw [this]
        have : leftOf es #[] = es := by unfold leftOf; simp
        rw [this]
      · exact (List.cons.inj eks).2
    have hnd : ((leftOf es seen).toList.map (·.born)).Nodup := by
      unfold leftOf
      rw [Array.toList_filter]
      exact (hst.2.1).sublist (List.Sublist.map _ List.filter_sublist)
    have hbm : m ≠ b := fun e => Fr_live h hobj rfl hblk (e ▸ hFm)
    rcases run_next_at (P := P) w o.type b m since c0 seen es clock hob hm hold hsc with ⟨h0, hrun⟩ | ⟨e, he, w1, hal, hrun⟩
    · have hl : left = [] := by
        rw [hleft, List.map_eq_nil_iff]
        exact List.length_eq_zero_iff.1 (by simpa using h0)
      have hrun : (execOp a.eval o).run P w = .ok (.value (.tuple #[.bool false])) w := by
        simp only [execOp, hop, hx]
        simp [hrun]
      exact wp_value hrun (hn0 hl _ (h.grow (dst := o.dst) (x := .any) (Frame0.refl _ _) trivial))
    · obtain ⟨i, hi⟩ := List.getElem?_of_mem he
      have hem : e ∈ es.toList := (mem_left he).1
      have hrun : (execOp a.eval o).run P w = .ok (.value (.tuple #[.bool true, e.key, e.val])) (ChangeMaps.setBlock w1 b (.mapIter (some m) since (seen.push e.born) clock)) := by
        simp only [execOp, hop, hx]
        simp [hrun]
      have hfr : Frame0 (fun k => k = b) w (ChangeMaps.setBlock w1 b (.mapIter (some m) since (seen.push e.born) clock)) := by
        have := frame_block w1 b (.mapIter (some m) since (seen.push e.born) clock)
        rcases hal with rfl | rfl
        · exact this
        · exact ⟨this.os, this.tape, this.output, this.size, this.block⟩
      have hbk : (ChangeMaps.setBlock w1 b (.mapIter (some m) since (seen.push e.born) clock)).heap[b]? = some (.mapIter (some m) since (seen.push e.born) clock) := block_at (o' := .mapIter (some m) since seen c0) (by rcases hal with rfl | rfl <;> exact hob)
      have hmk : (ChangeMaps.setBlock w1 b (.mapIter (some m) since (seen.push e.born) clock)).heap[m]? = some (.map es clock) := by
        rw [hfr.block m (Array.getElem?_eq_some_iff.1 hm).1 hbm]; exact hm
      refine wp_value hrun (hn1 i e.key e.val (by rw [hleft, List.getElem?_map, hi]; rfl) _ ?_)
      refine h.turnX (dst := o.dst) (x := .any) (v := .tuple #[.bool true, e.key, e.val]) (s := ob) (ob := .mp itK (c :: left)) (ob' := .mp itK (.tuple ⟨[e.key, e.val]⟩ :: left.eraseIdx i)) (b := b) hobj trivial hblk hfr ?_ trivial
      refine ⟨b, _, hblk, hbk, .inr (.inl ⟨rfl, b, m, es, clock, since, seen.push e.born, clock, hvr, rfl, .inl hFm, hmk, hst, hold, hsk, hsk, .inr ⟨e, hem, seen, rfl, rfl, ?_⟩⟩)⟩
      rw [left_push, filter_erase (fun x : MapEntry => x.born) _ hnd i e hi, hleft, ChangeMaps.map_eraseIdx]
      rfl
  · cases hh
end Go.Proofs.Ytpggfnggffedlaa.Ae

namespace Go.Proofs.Ytpggfnggffedlaa.Ae
open Go Go.RowKit
variable {P : Program} {mf : FuncId → Bool} {tb : FuncId → Option Ct} {N : NR} {F0 : Nat → Prop} {M0 : Nat → Nat → Prop} {w0 : World} {hv : Nat → Value} {st : St} {a : Act} {w : World} {o : Oper} {next : Act → World → Prop} {Q : Exit → Act → World → Prop}
theorem frz_Fr (st : St) (l : List Nat) : ∀ k, Fr F0 w0 hv st w k → Fr F0 w0 hv (st.frz l) w k := by
  rintro b (hb0 | ⟨g1, g2, g3⟩)
  · exact .inl hb0
  · refine .inr ⟨g1, g2, fun o ob hd hl => ?_⟩
    rcases frz_cases st l o with e | ⟨d, e1, e2⟩ | ⟨sz, e, xs, e1, e2⟩
    · exact g3 o ob (e ▸ hd) hl
    · rw [e2] at hd; obtain rfl := Option.some.inj hd; cases hl
    · rw [e2] at hd; obtain rfl := Option.some.inj hd; cases hl
theorem fnOf_eval (h : Rel N F0 M0 w0 hv st a w) {x : Operand} {f : FuncId} (e : fnOf (ev st x) = some f) : a.eval x = .func (.func f) #[] #[] := by
  unfold fnOf at e
  split at e
  · rename_i f' e1
    obtain rfl := Option.some.inj e
    exact (ev_lit h e1).1
  · cases e
theorem callC_sound' {b : Bool} {f : FuncId} {args : Array Operand} {g : List D → Prop × List D} {cs : List D} {cv : List Value} (hs : SpecD N P f g) (h : Rel N F0 M0 w0 hv st a w) (hrun : (execOp a.eval o).run P w = .ok (.enter f (args.toList.map a.eval ++ cv).toArray) w) (hcv : RepVs N (Fr F0 w0 hv st w) w cs cv)
    (hp : (callC b st (fun l => g (l ++ cs)) (args.toList.map (ev st))).pre)
    (hn : ∀ hv' a' w', Rel N F0 M0 w0 hv' (st.apply o.dst (callC b st (fun l => g (l ++ cs)) (args.toList.map (ev st)))) a' w' → next a' w') : Oper.wp P o a w next Q := by
  unfold callC at hp hn
  cases b with
  | false =>
    simp only at hp hn
    split at hp
    · rename_i ds e3
      simp only [e3] at hn
      refine callD_sound hs h hrun hp (Fr_lt h) (fun _ => .inl) ((datas_rep h args.toList ds e3).append hcv) (.inl fun _ hk => hk) (fun hv' a' w' hr => hn hv' a' w' ?_)
      rw [apply_nil]
      exact hr
    · exact hp.elim
  | true =>
    simp only at hp hn
    split at hp
    · rename_i ps e3
      simp only [e3] at hn
      split at hp
      · rename_i e4
        simp only [e4] at hn
        refine callD_sound hs h hrun hp (F := fun k => Fr F0 w0 hv st w k ∨ ∃ o ∈ owners ps, blkOf (hv o) = some k) (fun k hk => ?_) (fun k hk => .inl (.inl hk)) ((asDatas_rep h (fun k hk => .inl hk) args.toList ps e3 (fun o' ho' k hk => .inr ⟨o', ho', hk⟩)).append (hcv.mono (fun k hk => ⟨.inl hk, rfl⟩))) (.inr e4) (fun hv' a' w' hr => hn hv' a' w' ?_)
        · rcases hk with hk | ⟨o', ho', hk⟩
          · exact Fr_lt h k hk
          · obtain ⟨ob, hob⟩ := asDatas_owner _ ps e3 o' ho'
            exact (h.ob o' ob hob).lt k hk
        · rw [apply_nil]
          exact hr
      · rename_i e4
        simp only [e4] at hn
        obtain ⟨hp, hfr⟩ := hp
        have h1 := h.frz (owners ps)
        have hF0 := frz_Fr (F0 := F0) (w0 := w0) (hv := hv) (w := w) st (owners ps)
        have hrep := (asDatas_rep h hF0 args.toList ps e3 (fun o' ho' k hk => by
          obtain ⟨ob, hob⟩ := asDatas_owner _ ps e3 o' ho'
          exact Fr_frz h hfr ho' hob hk)).append (hcv.mono (fun k hk => ⟨hF0 k hk, rfl⟩))
        refine callD_sound hs h1 hrun hp (Fr_lt h1) (fun _ => .inl) hrep (.inl fun _ hk => hk) (fun hv' a' w' hr => hn hv' a' w' ?_)
        have e5 : (st.frz (owners ps)).put o.dst (resX (g (ps.map (·.1) ++ cs)).2) = st.apply o.dst ⟨(g (ps.map (·.1) ++ cs)).1 ∧ allFreeze st (owners ps), resX (g (ps.map (·.1) ++ cs)).2, freezes st (owners ps)⟩ := by
          rw [apply_put]
          cases o.dst <;> rfl
        rw [← e5]
        exact hr
    · exact hp.elim
theorem callC_sound {b : Bool} {f : FuncId} {args : Array Operand} {ts : Array TypeId} {g : List D → Prop × List D} (hs : SpecD N P f g) (hc : callable P f = true) (h : Rel N F0 M0 w0 hv st a w) (ho : CallOp a o f args ts) (hp : (callC b st g (args.toList.map (ev st))).pre)
    (hn : ∀ hv' a' w', Rel N F0 M0 w0 hv' (st.apply o.dst (callC b st g (args.toList.map (ev st)))) a' w' → next a' w') : Oper.wp P o a w next Q := by
  have e : (fun l => g (l ++ [])) = g := by funext l; rw [List.append_nil]
  refine callC_sound' (b := b) (cs := []) (cv := []) hs h (by rw [List.append_nil]; exact call_run ho hc) ⟨rfl, fun i d v h1 h2 => by simp at h1⟩ ?_ ?_
  · rw [e]; exact hp
  · rw [e]; exact hn
theorem callF_sound (htb : TbOK N P tb) (h : Rel N F0 M0 w0 hv st a w) {t : Nat} {f : FuncId} {cs : List D} {args : Array Operand} {ts : Array TypeId} (ho : o.op = .call { callee := .value (.tmp t), args := args, argTypes := ts }) (hf : cloOf (ev st (.tmp t)) = some (f, cs)) {b : Bool} (hp : (callF b tb st f cs (args.toList.map (ev st))).pre)
    (hn : ∀ hv' a' w', Rel N F0 M0 w0 hv' (st.apply o.dst (callF b tb st f cs (args.toList.map (ev st)))) a' w' → next a' w') : Oper.wp P o a w next Q := by
  have hx := ev_rep h (.tmp t)
  unfold cloOf at hf
  split at hf
  · rename_i f' cs' e1
    simp only [Option.some.injEq, Prod.mk.injEq] at hf
    obtain ⟨rfl, rfl⟩ := hf
    rw [e1] at hx
    obtain ⟨vs, hv1, hvs⟩ := hx
    unfold callF at hp hn
    split at hp
    · rename_i g e2
      simp only [e2] at hn
      obtain ⟨hs, hc⟩ := htb _ _ e2
      exact callC_sound' hs h (callV_run ho hv1 hc) hvs hp hn
    · exact hp.elim
  · cases hf
theorem callF0_sound (htb : TbOK N P tb) (h : Rel N F0 M0 w0 hv st a w) {t : Nat} {f : FuncId} {args : Array Operand} {ts : Array TypeId} (ho : o.op = .call { callee := .value (.tmp t), args := args, argTypes := ts }) (hf : fnOf (ev st (.tmp t)) = some f) {b : Bool} (hp : (callF b tb st f [] (args.toList.map (ev st))).pre)
    (hn : ∀ hv' a' w', Rel N F0 M0 w0 hv' (st.apply o.dst (callF b tb st f [] (args.toList.map (ev st)))) a' w' → next a' w') : Oper.wp P o a w next Q := by
  have hv1 := fnOf_eval h hf
  unfold callF at hp hn
  split at hp
  · rename_i g e2
    simp only [e2] at hn
    obtain ⟨hs, hc⟩ := htb _ _ e2
    exact callC_sound' hs h (callV_run ho hv1 hc) ⟨rfl, fun i d v h1 h2 => by simp at h1⟩ hp hn
  · exact hp.elim
theorem makeA_sound (h : Rel N F0 M0 w0 hv st a w) {fn : Fn} {first captured : Array Operand} (ho : o.op = .makeFunc fn first captured) (hp : (makeA st fn first.toList (captured.toList.map (ev st))).pre)
    (hn : ∀ hv' a' w', Rel N F0 M0 w0 hv' (st.apply o.dst (makeA st fn first.toList (captured.toList.map (ev st)))) a' w' → next a' w') : Oper.wp P o a w next Q := by
  unfold makeA at hp hn
  split at hp
  · rename_i f ps e0 ef e1
    simp only [e0, ef, e1] at hn
    have hfn : fn = .func f := by
      unfold fnIs at e0
      split at e0
      · obtain rfl := Option.some.inj e0; rfl
      · cases e0
    have hfirst : first = #[] := by rw [← Array.toArray_toList (xs := first), ef]
    have h1 := h.frz (owners ps)
    have hrep := asDatas_rep h (frz_Fr st (owners ps)) captured.toList ps e1 (fun o' ho' k hk => by
      obtain ⟨ob, hob⟩ := asDatas_owner _ ps e1 o' ho'
      exact Fr_frz h hp ho' hob hk)
    have hrun : (execOp a.eval o).run P w = .ok (.value (.func (.func f) #[] (captured.map a.eval))) w := by
      simp [execOp, ho, hfn, hfirst, Instr.makeFunc]
    refine wp_value hrun (hn hv _ _ ?_)
    have hk := h1.keep (dst := o.dst) (x := .clo f (ps.map fun (p : D × Option Nat) => p.1)) (v := .func (.func f) #[] (captured.map a.eval)) ⟨_, rfl, by rw [Array.toList_map]; exact hrep⟩
    have e5 : ∀ (x : X) (p : Prop), (st.frz (owners ps)).put o.dst x = st.apply o.dst ⟨p, x, freezes st (owners ps)⟩ := by
      intro x p
      rw [apply_put]
      cases o.dst <;> rfl
    rw [e5 _ _] at hk
    exact hk
  · exact hp.elim
theorem buildO_sound (h : Rel N F0 M0 w0 hv st a w) {t : TypeId} {n : Nat} {parts : Array (Nat × Operand)} (ho : o.op = .buildSlice t n parts) (hp : (buildO P st (P.underlying t) n (parts.toList.map (·.1)) (parts.toList.map fun p => ev st p.2)).pre)
    (hn : ∀ hv' a' w', Rel N F0 M0 w0 hv' (st.apply o.dst (buildO P st (P.underlying t) n (parts.toList.map (·.1)) (parts.toList.map fun p => ev st p.2))) a' w' → next a' w') : Oper.wp P o a w next Q := by
  unfold buildO at hp hn
  split at hp
  · rename_i e ps k ks e1 e2 e3
    simp only [e1, e2, e3] at hn
    obtain ⟨⟨p0, p1, p2, p3, p4, p5⟩, hfr⟩ := hp
    have h1 := h.frz (owners ps)
    have hrep : RepVs N (Fr F0 w0 hv (st.frz (owners ps)) w) w (ps.map (·.1)) (parts.toList.map fun p => a.eval p.2) := by
      have e4 : asDatas st ((parts.toList.map (·.2)).map (ev st)) = some ps := by rw [List.map_map]; exact e2
      have := asDatas_rep h (frz_Fr st (owners ps)) (parts.toList.map (·.2)) ps e4 (fun o' ho' k hk => by
        obtain ⟨ob, hob⟩ := asDatas_owner _ ps e4 o' ho'
        exact Fr_frz h hfr ho' hob hk)
      rw [List.map_map] at this
      exact this
    refine buildSlice_sound h1 ho e1 hrep p0 (e3 ▸ p1) p2 p3 p4 p5 (fun hv' a' w' hr => hn hv' a' w' ?_)
    have e5 : ∀ (x : X) (p : Prop), (st.frz (owners ps)).put o.dst x = st.apply o.dst ⟨p, x, freezes st (owners ps)⟩ := by
      intro x p
      rw [apply_put]
      cases o.dst <;> rfl
    rw [e5 _ _] at hr
    exact hr
  · exact hp.elim
theorem callA_sound (htb : TbOK N P tb) (h : Rel N F0 M0 w0 hv st a w) {f : FuncId} {args : Array Operand} {ts : Array TypeId} (ho : CallOp a o f args ts) (hno : ∀ s, o.dst = some s → noref st s) (hp : (callA mf tb st o.dst f (args.toList.map (ev st))).pre)
    (hn : ∀ hv' a' w', Rel N F0 M0 w0 hv' (st.apply o.dst (callA mf tb st o.dst f (args.toList.map (ev st)))) a' w' → next a' w') : Oper.wp P o a w next Q := by
  unfold callA at hp hn
  split at hp
  · rename_i g e1
    obtain ⟨hs, hc⟩ := htb f _ e1
    simp only [e1] at hn
    exact callC_sound hs hc h ho hp hn
  · rename_i sz e g gd e1
    obtain ⟨hs, hc⟩ := htb f _ e1
    simp only [e1] at hn
    split at hp
    · rename_i x r e2 ea
      simp only [e2, ea] at hn
      split at hp
      · rename_i oo lo n ew
        simp only [ew] at hn
        split at hp
        · rename_i ps ep
          simp only [ep] at hn
          cases hl : args.toList with
          | nil => rw [hl] at ea; cases ea
          | cons x0 r0 =>
            rw [hl, List.map_cons] at ea
            injection ea with ea1 ea2
            subst ea1 ea2
            exact callW_sound hs.1 hc h ho hl ew ep hp hn
        · exact hp.elim
      · rename_i ew
        simp only [ew] at hn
        rw [← ea] at hp hn
        exact callC_sound hs.2 hc h ho hp hn
    · exact hp.elim
    · rename_i e2
      simp only [e2] at hn
      exact callC_sound hs.2 hc h ho hp hn
  · rename_i sz e g e1
    obtain ⟨hs, hc⟩ := htb f _ e1
    simp only [e1] at hn
    split at hp
    · rename_i e2
      simp only [e2] at hn
      exact callO_sound hs hc h ho hno hp hn
    · exact hp.elim
  · rename_i g e1
    obtain ⟨hs, hc⟩ := htb f _ e1
    simp only [e1] at hn
    split at hp
    · rename_i e2
      simp only [e2] at hn
      exact callB_sound hs hc h ho hno hp hn
    · exact hp.elim
  · rename_i t g e1
    obtain ⟨hs, hc⟩ := htb f _ e1
    simp only [e1] at hn
    split at hp
    · rename_i e2
      simp only [e2] at hn
      exact callMp_sound hs hc h ho hp hn
    · exact hp.elim
  · rename_i md g e1
    obtain ⟨hs, hc⟩ := htb f _ e1
    simp only [e1] at hn
    split at hp
    · exact hp.elim
    · rename_i e2
      split at hp
      · rename_i ps ds e3 e4
        simp only [e2, e3, e4] at hn
        obtain ⟨hp, hnd, hlen, hfr⟩ := hp
        exact callM_sound hs hc h ho e3 e4 hp hnd hlen hfr (fun hv' a' w' hr => hn hv' a' w' (by rw [apply_put]; exact hr))
      · exact hp.elim
  · exact hp.elim
theorem strIdx_sound (h : Rel N F0 M0 w0 hv st a w) {t : TypeId} {x i : Operand} (ho : o.op = .index t x i) (hp : (strIdx P (P.underlying t) (ev st x) (ev st i)).pre) :
    Computes P N st a hv (Fr F0 w0 hv st w) w o (strIdx P (P.underlying t) (ev st x) (ev st i)) ∧ (strIdx P (P.underlying t) (ev st x) (ev st i)).up = [] := by
  unfold strIdx at hp ⊢
  split at hp
  · rename_i s k n e0 e1 e2
    obtain ⟨v1, _⟩ := ev_lit h e1
    obtain ⟨v2, _⟩ := ev_lit h e2
    refine ⟨⟨_, ?_, rep_of_lit rfl⟩, rfl⟩
    have hb : byteAt s n = ((s[n.toNat]'(by omega)).toNat : Int) := by
      unfold byteAt
      rw [ByteArray.getElem?_lt' s _ (by omega)]
      rfl
    simp only [execOp, ho, v1, v2]
    have hp' : 0 ≤ n ∧ n < s.size := hp
    have hr := run_index_string (P := P) w t s k n e0
    rw [dif_pos hp'] at hr
    simp [hr, hb]
  · rename_i m e ds k n e0 e1 e2
    split at hp
    · rename_i d hd
      obtain ⟨⟨h0, h1⟩, h2, h3, ⟨h4, h5⟩, h6⟩ := hp
      have hx := ev_rep h x
      rw [e1] at hx
      obtain ⟨cs, hr, hv'⟩ := hx
      obtain ⟨v2, _⟩ := ev_lit h e2
      have hv' : a.eval x = .agg cs.toArray := hv'
      obtain ⟨v, r1, r2⟩ := run_partD (P := P) hr hd h2 h3 h4 h5
      refine ⟨⟨v, ?_, r2⟩, rfl⟩
      rw [← h6] at r1
      simp only [execOp, ho, hv', v2, Instr.index]
      simp [asIntOf, run_underlying e0, h0, h1, run_sizeOf h4, r1]
    · exact hp.elim
  · exact hp.elim
theorem isSome_ex {α : Type} {x : Option α} (h : x.isSome = true) : ∃ d, x = some d := Option.isSome_iff_exists.1 h
theorem lenA_sound (h : Rel N F0 M0 w0 hv st a w) {x : Operand} (hp : (lenA st (ev st x)).pre) (run : ∀ A n c, a.eval x = .slice A n c → (execOp a.eval o).run P w = .ok (.value (.int .i64 n)) w) : Computes P N st a hv (Fr F0 w0 hv st w) w o (lenA st (ev st x)) ∧ (lenA st (ev st x)).up = [] := by
  have hx := ev_rep h x
  unfold lenA at hp ⊢
  split at hp
  · rename_i sz xs e2
    rw [e2] at hx
    obtain ⟨cs, hx, hv'⟩ := hx
    cases hx with
    | sl A c es hc hm ha hels =>
      have hv' : a.eval x = .slice A xs.length c := hv'
      exact ⟨⟨_, run _ _ _ hv', rep_of_lit rfl⟩, rfl⟩
  · rename_i A n c e2
    rw [e2] at hx
    obtain ⟨hv', _⟩ := RepV.lit hx
    exact ⟨⟨_, run _ _ _ hv', rep_of_lit rfl⟩, rfl⟩
  · rename_i ob e2
    rw [e2] at hx
    split at hp
    · rename_i sz e' xs hrow
      obtain ⟨A, c, g1, _⟩ := row_val h hrow
      have hv' := hx ⟨_, hrow⟩
      rw [g1] at hv'
      exact ⟨⟨_, run _ _ _ hv', rep_of_lit rfl⟩, rfl⟩
    · exact hp.elim
  · rename_i ob lo n e2
    rw [e2] at hx
    split at hp
    · rename_i r hrow
      obtain ⟨sz, e', xs⟩ := r
      obtain ⟨A, N', c, A', g1, g2, g3⟩ := hx _ _ _ hrow
      exact ⟨⟨_, run _ _ _ g2, rep_of_lit rfl⟩, rfl⟩
    · exact hp.elim
  · exact hp.elim
theorem bytesDs_cells {F : Nat → Prop} : ∀ (ds : List D) (ns : List Int) (css : List (List Value)), bytesDs ds = some ns → css.length = ds.length → (∀ (i : Nat) (d : D) (cs : List Value), ds[i]? = some d → css[i]? = some cs → cs.length = 1 ∧ Rep N F w d cs) → css.flatten = ns.map (Value.int .u8)
  | [], ns, css, h, hl, _ => by
    simp only [bytesDs, Option.some.injEq] at h
    rw [← h, List.eq_nil_of_length_eq_zero hl]; rfl
  | d :: ds, ns, [], h, hl, _ => by simp at hl
  | d :: ds, ns, c :: css, h, hl, hr => by
    unfold bytesDs at h
    split at h
    · rename_i heq; cases heq
    · rename_i n ds' heq
      simp only [List.cons.injEq] at heq
      obtain ⟨rfl, rfl⟩ := heq
      split at h
      · rename_i ns' e
        obtain rfl := Option.some.inj h
        have h0 := (hr 0 _ c rfl rfl).2
        have ih := bytesDs_cells ds ns' css e (by simpa using hl) (fun i d' c' h1 h2 => hr (i + 1) d' c' (by simpa using h1) (by simpa using h2))
        rw [List.flatten_cons, ih]
        cases h0 with
        | lit _ => rfl
      · cases h
    · cases h
theorem bytesDs_size : ∀ (ds : List D) (ns : List Int), bytesDs ds = some ns → (∀ d ∈ ds, d.size = 1) ∧ ns.length = ds.length
  | [], ns, h => by
    simp only [bytesDs, Option.some.injEq] at h
    exact ⟨fun d hd => (by cases hd), by rw [← h]; rfl⟩
  | d :: ds, ns, h => by
    unfold bytesDs at h
    split at h
    · rename_i heq; cases heq
    · rename_i n ds' heq
      simp only [List.cons.injEq] at heq
      obtain ⟨rfl, rfl⟩ := heq
      split at h
      · rename_i ns' e
        obtain rfl := Option.some.inj h
        obtain ⟨h1, h2⟩ := bytesDs_size ds ns' e
        exact ⟨fun d hd => by rcases List.mem_cons.1 hd with rfl | hd; rfl; exact h1 d hd, by simp [h2]⟩
      · cases h
    · cases h
theorem loadCells_of {b off : Nat} {cs : List Value} (hc : Cells w b off cs) : (loadCells ⟨b, off, none⟩ cs.length).run P w = .ok cs.toArray w := by
  have := run_loadCells_list (P := P) (w := w) ⟨b, off, none⟩ cs (fun j v hj => by rw [add_plain]; exact hc j v hj)
  exact this
theorem strA_sound (h : Rel N F0 M0 w0 hv st a w) {src dst : TypeId} {x : Operand} (hop : o.op = .convert src dst x) (hp : (barIf (fl mf (ev st x)) (strA P st (P.underlying src) (P.underlying dst) (ev st x))).pre)
    (hn : ∀ hv' a' w', Rel N F0 M0 w0 hv' (st.apply o.dst (barIf (fl mf (ev st x)) (strA P st (P.underlying src) (P.underlying dst) (ev st x)))) a' w' → next a' w') : Oper.wp P o a w next Q := by
  cases hb : fl mf (ev st x) with
  | true => rw [hb] at hp; exact hp.elim
  | false =>
  rw [hb] at hp hn
  simp only [barIf] at hp hn
  unfold strA at hp hn
  split at hp
  · rename_i e e1 e2
    simp only [e1, e2] at hn
    split at hp
    · rename_i ns e3 e4
      simp only [e3, e4] at hn
      obtain ⟨ys, he, hbs⟩ := Option.bind_eq_some_iff.1 e4
      obtain ⟨hsz, hlen⟩ := bytesDs_size ys ns hbs
      obtain ⟨A, c, css, hx, hcl, hcr, hcc⟩ := elems_src h he hsz
      have hfl := bytesDs_cells ys ns css hbs hcl hcr
      refine Computes.wp h ⟨_, ?_, rep_of_lit rfl⟩ rfl hn
      simp only [execOp, hop, hx]
      rw [Sem.run_bind, run_convert_bytes_string w src dst e A ys.length c e1 e3 e2]
      cases A with
      | none =>
        have h0 : ys.length = 0 := by
          rcases Nat.eq_zero_or_pos ys.length with h0 | h0
          · exact h0
          · obtain ⟨b, off, hA, _⟩ := hcc h0
            cases hA
        have hn0 : ns = [] := List.eq_nil_of_length_eq_zero (by rw [hlen, h0])
        subst hn0
        rfl
      | some A =>
        have hld : (loadCells A ys.length).run P w = .ok (ns.map (Value.int .u8)).toArray w := by
          rcases Nat.eq_zero_or_pos ys.length with h0 | h0
          · have hn0 : ns = [] := List.eq_nil_of_length_eq_zero (by rw [hlen, h0])
            subst hn0
            rw [h0]
            rfl
          · obtain ⟨b, off, hA, hcells⟩ := hcc h0
            obtain rfl := Option.some.inj hA
            rw [hfl] at hcells
            have := loadCells_of (P := P) hcells
            rw [List.length_map, hlen] at this
            exact this
        rw [run_bytesToString w A ys.length c ns hld]
        rfl
    · exact hp.elim
  · rename_i d k _ e1 e2
    simp only [e1, e2] at hn
    split at hp
    · rename_i k' n e3
      simp only [e3] at hn
      obtain ⟨v1, _⟩ := ev_lit h e3
      refine Computes.wp h ⟨_, ?_, rep_of_lit rfl⟩ rfl hn
      simp only [execOp, hop, v1]
      cases d <;> simp [convert, run_underlying e1, run_underlying e2, Conv.intToInt]
    · exact hp.elim
  · exact hp.elim
theorem aop_sound (htb : TbOK N P tb) (h : Rel N F0 M0 w0 hv st a w) (hno : mkOp o.op = true → ∀ s, o.dst = some s → noref st s) (hp : (aop P mf tb st o).pre)
    (hn : ∀ hv' a' w', Rel N F0 M0 w0 hv' (st.apply o.dst (aop P mf tb st o)) a' w' → next a' w') : Oper.wp P o a w next Q := by
  cases hop : o.op with
  | move x =>
    simp only [aop, hop] at hp hn
    exact Computes.wp (r := ⟨True, ev st x, []⟩) h ⟨a.eval x, by simp [execOp, hop], ev_rep h x⟩ rfl hn
  | assign x =>
    simp only [aop, hop] at hp hn
    exact Computes.wp (r := ⟨True, ev st x, []⟩) h ⟨a.eval x, by simp [execOp, hop], ev_rep h x⟩ rfl hn
  | pick c x y =>
    simp only [aop, hop] at hp hn
    obtain ⟨h1, h2⟩ := pickA_sound (P := P) h hop hp
    exact Computes.wp h h1 h2 hn
  | binOp op t x y t' =>
    simp only [aop, hop] at hp hn
    obtain ⟨h1, h2⟩ := binA_sound h hop hp
    exact Computes.wp h h1 h2 hn
  | unOp op t x =>
    simp only [aop, hop] at hp hn
    obtain ⟨h1, h2⟩ := unA_sound (P := P) h hop hp
    exact Computes.wp h h1 h2 hn
  | convert src dst x =>
    simp only [aop, hop] at hp hn
    cases hsc : mf strc with
    | true =>
      rw [hsc] at hp hn
      simp only [] at hp hn
      exact strA_sound h hop hp hn
    | false =>
    rw [hsc] at hp hn
    simp only [] at hp hn
    split at hp
    · rename_i d k k' n e1 e2 e3
      simp only [e1, e2, e3] at hn
      obtain ⟨v1, _⟩ := ev_lit h e3
      refine Computes.wp h ⟨_, ?_, rep_of_lit rfl⟩ rfl hn
      simp only [execOp, hop, v1]
      cases d <;> simp [convert, run_underlying e1, run_underlying e2, Conv.intToInt]
    · rename_i d k k' n e1 e2 e3
      simp only [e1, e2, e3] at hn
      obtain ⟨v1, _⟩ := ev_lit h e3
      refine Computes.wp h ⟨_, ?_, rep_of_lit rfl⟩ rfl hn
      simp only [execOp, hop, v1]
      simp [run_convert_int_float w src dst k' k n (by rw [e1]; rfl) e2]
    · rename_i d k s b e1 e2 e3
      simp only [e1, e2, e3] at hn
      obtain ⟨v1, _⟩ := ev_lit h e3
      obtain rfl : s = k := hp
      refine Computes.wp h ⟨_, ?_, rep_of_lit rfl⟩ rfl hn
      simp only [execOp, hop, v1]
      simp [run_convert_float_float (P := P) w src dst s s b b (by rw [e1]; rfl) e2 (by simp [floatToFloatBits])]
    · exact hp.elim
  | nilCheck x =>
    simp only [aop, hop] at hp hn
    split at hp
    · rename_i ob p off e1
      simp only [e1] at hn
      have hx := ev_rep h x
      have hx' := hx
      rw [e1] at hx'
      obtain ⟨b, g2, g1⟩ := hx'
      refine Computes.wp (r := ⟨_, .obj ob p off, []⟩) h ⟨a.eval x, ?_, by rw [← e1]; exact hx⟩ rfl hn
      simp only [execOp, hop, g2]
      simp
    · rename_i d e1
      simp only [e1] at hn
      have hx := ev_rep h x
      have hx' := hx
      rw [e1] at hx'
      obtain ⟨cs, hr, hv'⟩ := hx'
      cases hr with
      | ptr b off es hb hc hr =>
        have hv' : a.eval x = .pointer (some ⟨b, off, none⟩) := hv'
        refine Computes.wp (r := ⟨_, .dat (.ptr d), []⟩) h ⟨a.eval x, ?_, by rw [← e1]; exact hx⟩ rfl hn
        simp only [execOp, hop, hv']
        simp
    · exact hp.elim
  | box t x =>
    simp only [aop, hop] at hp hn
    split at hp
    · rename_i d s e1 e2
      simp only [e1, e2] at hn
      have hc := (ev_dat h e1).cells
      have hF : ∀ b, Fr F0 w0 hv st w b → Fr F0 w0 hv st w b ∧ (w.alloc (.cells (a.eval x).cells.toList.toArray t)).heap[b]? = w.heap[b]? := fun b hb => ⟨hb, (frame_alloc w _).block b (Fr_lt h b hb) (fun h => h)⟩
      obtain ⟨hv', hr⟩ := h.new (s := s) (s0 := none) (ob := .box d) (v := .pointer (some ⟨w.heap.size, 0, none⟩)) (x := .obj s [] 0) (w' := w.alloc (.cells (a.eval x).cells.toList.toArray t)) (M1 := fun _ => False) hp.1 hp.2 (hno (by rw [hop]; rfl) s e2) (frame_alloc w _) (fun _ h => h.elim)
        (fun k hk => by left; simp only [blkOf, Option.some.injEq] at hk; omega) ⟨_, _, t, rfl, heap_alloc_new w _, hc.mono hF⟩ trivial (.inl ⟨rfl, _, rfl⟩)
      have hrun : (execOp a.eval o).run P w = .ok (.value (.pointer (some ⟨w.heap.size, 0, none⟩))) (w.alloc (.cells (a.eval x).cells.toList.toArray t)) := by
        simp only [execOp, hop]
        simp [Instr.box, newVar, run_newRow]
      refine wp_value hrun (hn hv' _ _ ?_)
      rw [e2]
      exact hr
    · exact hp.elim
  | alloc t =>
    have key : ∀ (s : Nat) (cs : List Value) (d : D), o.dst = some s → st.obj s = none → s < st.ob.length → Rep N (Fr F0 w0 hv st w) w d cs → (execOp a.eval o).run P w = .ok (.value (.pointer (some ⟨w.heap.size, 0, none⟩))) (w.alloc (.cells cs.toArray t)) →
        (∀ hv' a' w', Rel N F0 M0 w0 hv' { (st.put (some s) (.obj s [] 0)) with ob := st.ob.set s (some (.box d)) } a' w' → next a' w') → Oper.wp P o a w next Q := by
      intro s cs d hd p1 p2 hc hrun hn
      have hF : ∀ b, Fr F0 w0 hv st w b → Fr F0 w0 hv st w b ∧ (w.alloc (.cells cs.toArray t)).heap[b]? = w.heap[b]? := fun b hb => ⟨hb, (frame_alloc w _).block b (Fr_lt h b hb) (fun h => h)⟩
      obtain ⟨hv', hr⟩ := h.new (s := s) (s0 := none) (ob := .box d) (v := .pointer (some ⟨w.heap.size, 0, none⟩)) (x := .obj s [] 0) (w' := w.alloc (.cells cs.toArray t)) (M1 := fun _ => False) p1 p2 (hno (by rw [hop]; rfl) s hd) (frame_alloc w _) (fun _ h => h.elim)
        (fun k hk => by left; simp only [blkOf, Option.some.injEq] at hk; omega) ⟨_, _, t, rfl, heap_alloc_new w _, hc.mono hF⟩ trivial (.inl ⟨rfl, _, rfl⟩)
      refine wp_value hrun (hn hv' _ _ ?_)
      rw [hd]
      exact hr
    simp only [aop, hop] at hp hn
    split at hp
    · rename_i v s e1 e2
      simp only [e1, e2] at hn
      obtain ⟨⟨p1, p2⟩, p3⟩ := hp
      obtain ⟨it, hit, hz⟩ := Option.bind_eq_some_iff.1 e1
      refine key s v.cells.toList _ e2 p1 p2 (litD_rep p3) ?_ hn
      simp only [execOp, hop]
      simp [Instr.alloc, zeroValue, typeInfo, hit, hz, newVar, run_newRow]
    · exact hp.elim
  | fieldAddr s x i =>
    simp only [aop, hop] at hp hn
    split at hp
    · rename_i fs hu
      simp only [hu] at hn
      split at hp
      · rename_i f hf
        simp only [hf] at hn
        have hx := ev_rep h x
        split at hp
        · rename_i ob p off e1
          simp only [e1] at hn
          rw [e1] at hx
          obtain ⟨b, g2, g1⟩ := hx
          exact Computes.wp (r := ⟨_, .obj ob (p ++ [i]) (off + f.offset), []⟩) h ⟨_, fieldAddr_run hop hu hf g2 hp, ⟨b, rfl, g1⟩⟩ rfl hn
        · rename_i ob j p off e1
          simp only [e1] at hn
          rw [e1] at hx
          obtain ⟨b, k, g2, g1⟩ := hx
          exact Computes.wp (r := ⟨_, .elt ob j (p ++ [i]) (off + f.offset), []⟩) h ⟨_, fieldAddr_run hop hu hf g2 hp, b, k, by rw [Nat.add_assoc], g1⟩ rfl hn
        · rename_i ds e1
          split at hp
          · rename_i d hd
            simp only [e1, hd] at hn
            rw [e1] at hx
            obtain ⟨cs, hr, hv'⟩ := hx
            cases hr with
            | ptr b off es hb hc hr =>
              have hv' : a.eval x = .pointer (some ⟨b, off, none⟩) := hv'
              have hnav : nav (.agg ds) [i] = some (d, D.sizes (ds.take i) + 0) := by simp only [nav, hd]
              obtain ⟨es', k1, k2⟩ := part_cells hc hr hnav
              refine Computes.wp (r := ⟨_, .dat (.ptr d), []⟩) h ⟨_, fieldAddr_run hop hu hf hv' hp.1, _, .ptr b (off + f.offset) es' hb ?_ k2, rfl⟩ rfl hn
              rw [hp.2]
              exact k1
          · exact hp.elim
        · exact hp.elim
      · exact hp.elim
    · exact hp.elim
  | load t x =>
    simp only [aop, hop] at hp hn
    cases hfl : fl mf (ev st x) with
    | true => rw [hfl] at hp; exact hp.elim
    | false =>
    rw [hfl] at hp hn
    simp only [barIf] at hp hn
    have hx := ev_rep h x
    split at hp
    · rename_i ob p off e1
      split at hp
      · rename_i d hd
        split at hp
        · rename_i e off' hnv
          simp only [e1, hd, hnv] at hn
          obtain ⟨h0, h1, h2, h3, h4⟩ := hp
          rw [e1] at hx
          obtain ⟨b, g2, g1⟩ := hx
          have g1 := g1 ⟨d, hd⟩
          obtain ⟨b', cs, t', g3, hc, hr⟩ := box_rep h hd
          rw [g1] at g3
          injection g3 with g3
          injection g3 with g3
          injection g3 with g3
          subst g3
          obtain ⟨es, k1, k2⟩ := part_cells (cells_of_block hc) hr hnv
          rw [Nat.zero_add, h0] at k1
          exact Computes.wp h (load_sound h hop g2 k1 k2 h1 h2 h3 h4 _) rfl hn
        · exact hp.elim
      · exact hp.elim
    · rename_i ob j p off e1
      split at hp
      · rename_i sz e xs hd
        split at hp
        · rename_i d hj
          split at hp
          · rename_i e' off' hnv
            simp only [e1, hd, hj, hnv] at hn
            obtain ⟨h5, h0, h1, h2, h3, h4⟩ := hp
            rw [e1] at hx
            obtain ⟨b, k0, g2, g1⟩ := hx
            obtain ⟨rfl, n, c, g1⟩ := g1 _ _ _ hd
            obtain ⟨b', n', c', es, g3, hc, hr⟩ := row_elt h hd hj
            rw [g1] at g3
            injection g3 with g3 _ _
            injection g3 with g3
            injection g3 with g3
            subst g3
            obtain ⟨es', k1, k2⟩ := part_cells hc hr hnv
            rw [h0] at k1
            exact Computes.wp h (load_sound h hop g2 k1 k2 h1 h2 h3 h4 _) rfl hn
          · exact hp.elim
        · exact hp.elim
      · exact hp.elim
    · rename_i d e1
      simp only [e1] at hn
      obtain ⟨h1, h2, h3, h4⟩ := hp
      rw [e1] at hx
      obtain ⟨cs, hr, hv'⟩ := hx
      cases hr with
      | ptr b off es hb hc hr =>
        have hv' : a.eval x = .pointer (some ⟨b, off, none⟩) := hv'
        exact Computes.wp h (load_sound h hop hv' hc hr h1 h2 h3 h4 _) rfl hn
    · exact hp.elim
  | store t x y =>
    simp only [aop, hop] at hp hn
    cases hlb : lateBad mf x (ev st x) with
    | true => rw [hlb] at hp; exact hp.elim
    | false =>
    rw [hlb] at hp hn
    simp only [barIf] at hp hn
    split at hp
    · rename_i ob p off dx e1 e2
      split at hp
      · rename_i d hd
        split at hp
        · rename_i e off' hnv
          simp only [e1, e2, hd, hnv] at hn
          obtain ⟨h0, h1, h2, h3⟩ := hp
          exact store_obj h hop e1 e2 hd hnv h0 h1 h2 h3 hn
        · exact hp.elim
      · exact hp.elim
    · rename_i ob j p off dx e1 e2
      split at hp
      · rename_i sz e xs hd
        split at hp
        · rename_i d hj
          split at hp
          · rename_i e' off' hnv
            simp only [e1, e2, hd, hj, hnv] at hn
            obtain ⟨h4, h0, h1, h2, h3⟩ := hp
            exact store_elt h hop e1 e2 hd (.inl ⟨rfl, rfl⟩) hj hnv h4 h0 h1 h2 h3 hn
          · exact hp.elim
        · exact hp.elim
      · rename_i sz e cp xs hd
        split at hp
        · rename_i d hj
          split at hp
          · rename_i e' off' hnv
            simp only [e1, e2, hd, hj, hnv] at hn
            obtain ⟨h4, h0, h1, h2, h3⟩ := hp
            exact store_elt h hop e1 e2 hd (.inr ⟨_, rfl, rfl⟩) hj hnv h4 h0 h1 h2 h3 hn
          · exact hp.elim
        · exact hp.elim
      · exact hp.elim
    · exact hp.elim
  | build t parts =>
    simp only [aop, hop] at hp hn
    split at hp
    · rename_i e1
      split at hp
      · rename_i ds e2
        simp only [e1, e2] at hn
        have hrep : RepVs N (Fr F0 w0 hv st w) w ds (parts.toList.map fun p => a.eval p.2) := by
          have := datas_rep h (parts.toList.map (·.2)) ds (by rw [List.map_map]; exact e2)
          rw [List.map_map] at this
          exact this
        obtain ⟨v, h1, h2⟩ := build_run (P := P) hop hrep hp
        exact Computes.wp (r := ⟨_, .dat (buildA P t (parts.toList.map fun (p : Nat × Operand) => p.1) ds).2, []⟩) h ⟨v, h1, h2⟩ rfl hn
      · exact hp.elim
    · rename_i e1
      split at hp
      · rename_i ps e2
        simp only [e1, e2] at hn
        obtain ⟨hp, hfr⟩ := hp
        have h1 := h.frz (owners ps)
        have hrep : RepVs N (Fr F0 w0 hv (st.frz (owners ps)) w) w (ps.map (·.1)) (parts.toList.map fun p => a.eval p.2) := by
          have e3 : asDatas st ((parts.toList.map (·.2)).map (ev st)) = some ps := by rw [List.map_map]; exact e2
          have := asDatas_rep h (frz_Fr st (owners ps)) (parts.toList.map (·.2)) ps e3 (fun o' ho' k hk => by
            obtain ⟨ob, hob⟩ := asDatas_owner _ ps e3 o' ho'
            exact Fr_frz h hfr ho' hob hk)
          rw [List.map_map] at this
          exact this
        obtain ⟨v, r1, r2⟩ := build_run (P := P) hop hrep hp
        refine wp_value r1 (hn hv _ _ ?_)
        have hk := h1.keep (dst := o.dst) (x := .dat (buildA P t (parts.toList.map fun (p : Nat × Operand) => p.1) (ps.map fun (p : D × Option Nat) => p.1)).2) (v := v) r2
        have e5 : ∀ (x : X) (p : Prop), (st.frz (owners ps)).put o.dst x = st.apply o.dst ⟨p, x, freezes st (owners ps)⟩ := by
          intro x p
          rw [apply_put]
          cases o.dst <;> rfl
        rw [e5 _ _] at hk
        exact hk
      · exact hp.elim
  | makeFunc fn first captured =>
    simp only [aop, hop] at hp hn
    exact makeA_sound h hop hp hn
  | extract x i =>
    simp only [aop, hop] at hp hn
    split at hp
    · rename_i rs e1
      split at hp
      · rename_i r hr
        simp only [e1, hr] at hn
        have hx := ev_rep h x
        rw [e1] at hx
        obtain ⟨vs, hv', hl, hvs⟩ := hx
        have hi : i < vs.size := by
          have := (List.getElem?_eq_some_iff.1 hr).1
          omega
        have hget : vs[i]? = some vs[i] := Array.getElem?_eq_getElem hi
        have hrr := hvs i r vs[i] hr hget
        refine Computes.wp (r := ⟨True, r.x, []⟩) h ⟨vs[i], ?_, ?_⟩ rfl hn
        · simp only [execOp, hop, hv']
          simp [Instr.extract, hget]
        · cases r with
          | dat d => exact hrr
          | ref o' =>
            obtain ⟨b, g1, g2⟩ := hrr
            exact ⟨b, g1, fun hd => by rw [← g2 hd, g1]⟩
      · exact hp.elim
    · exact hp.elim
  | index t x y =>
    simp only [aop, hop] at hp hn
    obtain ⟨h1, h2⟩ := strIdx_sound (P := P) h hop hp
    exact Computes.wp h h1 h2 hn
  | indexAddr t x y =>
    simp only [aop, hop] at hp hn
    cases hfl : fl mf (ev st x) with
    | true => rw [hfl] at hp; exact hp.elim
    | false =>
    rw [hfl] at hp hn
    simp only [barIf] at hp hn
    split at hp
    · rename_i e k n e1 e3
      have hx := ev_rep h x
      obtain ⟨vi, _⟩ := ev_lit h e3
      split at hp
      · rename_i sz xs e2
        split at hp
        · rename_i d hd
          simp only [e1, e2, e3, hd] at hn
          obtain ⟨h0, h2, h3⟩ := hp
          rw [e2] at hx
          obtain ⟨cs, hx, hv'⟩ := hx
          have hi := (List.getElem?_eq_some_iff.1 hd).1
          cases hx with
          | sl A c es hc hm ha hels =>
            have hv' : a.eval x = .slice A xs.length c := hv'
            obtain ⟨b, off, hA, hb, hcs⟩ := ha (by omega)
            have hr := indexAt_run (w := w) hop e1 h3 hv' vi h0 (by omega) hA
            exact Computes.wp (r := ⟨_, .dat (.ptr d), []⟩) h ⟨_, hr, _, .ptr b (off + n.toNat * P.cellsOf e) (es n.toNat) hb (by rw [h2]; exact (hcs _ hi).2) (hels _ d hd), rfl⟩ rfl hn
        · exact hp.elim
      · rename_i ob e2
        split at hp
        · rename_i sz e' xs hrow
          simp only [e1, e2, e3, hrow] at hn
          obtain ⟨⟨h0, h1⟩, h2, h3⟩ := hp
          rw [e2] at hx
          have hv' := hx ⟨_, hrow⟩
          have hi : n.toNat < xs.length := by omega
          obtain ⟨b, n', c, es, g1, g2, g3⟩ := row_elt h hrow (List.getElem?_eq_getElem hi)
          obtain ⟨A, c2, g4, g5, _⟩ := row_val h hrow
          have hA : A = some ⟨b, 0, none⟩ := by rw [g4] at g1; injection g1
          rw [g4] at hv'
          have hr := indexAt_run (w := w) hop e1 h3 hv' vi h0 h1 hA
          refine Computes.wp (r := ⟨_, .elt ob n.toNat [] 0, []⟩) h ⟨_, hr, b, n.toNat * P.cellsOf e, by rw [Nat.zero_add, Nat.add_zero], fun sz' e'' xs' hr' => ?_⟩ rfl hn
          rw [hrow] at hr'
          simp only [Option.some.injEq, Prod.mk.injEq] at hr'
          obtain ⟨rfl, rfl, rfl⟩ := hr'
          exact ⟨by rw [h2], _, c2, by rw [g4, hA]⟩
        · exact hp.elim
      · rename_i ob lo m e2
        split at hp
        · rename_i sz e' xs hrow
          simp only [e1, e2, e3, hrow] at hn
          obtain ⟨⟨h0, h1⟩, h4, h2, h3⟩ := hp
          rw [e2] at hx
          obtain ⟨A, N', c, A', q1, q2, q3⟩ := hx _ _ _ hrow
          have hi : lo + n.toNat < xs.length := by omega
          obtain ⟨b, n', c', es, g1, g2, g3⟩ := row_elt h hrow (List.getElem?_eq_getElem hi)
          have hA : A = some ⟨b, 0, none⟩ := by rw [q1] at g1; injection g1
          have hA' := q3 (.inl (by omega))
          rw [hA] at hA'
          simp only [Option.map_some, add_plain, Nat.zero_add] at hA'
          have hr := indexAt_run (w := w) hop e1 h3 q2 vi h0 h1 hA'
          refine Computes.wp (r := ⟨_, .elt ob (lo + n.toNat) [] 0, []⟩) h ⟨_, hr, b, lo * sz + n.toNat * P.cellsOf e, by rw [Nat.add_zero], fun sz' e'' xs' hr' => ?_⟩ rfl hn
          rw [hrow] at hr'
          simp only [Option.some.injEq, Prod.mk.injEq] at hr'
          obtain ⟨rfl, rfl, rfl⟩ := hr'
          exact ⟨by rw [h2, Nat.add_mul], _, c, by rw [q1, hA]⟩
        · exact hp.elim
      · exact hp.elim
    · rename_i m e k n e1 e3
      have hx := ev_rep h x
      obtain ⟨vi, _⟩ := ev_lit h e3
      split at hp
      · rename_i ob p off e2
        simp only [e1, e2, e3] at hn
        obtain ⟨⟨h0, h1⟩, h3⟩ := hp
        rw [e2] at hx
        obtain ⟨b, g2, g1⟩ := hx
        exact Computes.wp (r := ⟨_, .obj ob (p ++ [n.toNat]) (off + n.toNat * P.cellsOf e), []⟩) h ⟨_, arrAddr_run hop e1 h3 g2 vi h0 h1, ⟨b, rfl, g1⟩⟩ rfl hn
      · rename_i ob j p off e2
        simp only [e1, e2, e3] at hn
        obtain ⟨⟨h0, h1⟩, h3⟩ := hp
        rw [e2] at hx
        obtain ⟨b, k', g2, g1⟩ := hx
        exact Computes.wp (r := ⟨_, .elt ob j (p ++ [n.toNat]) (off + n.toNat * P.cellsOf e), []⟩) h ⟨_, arrAddr_run hop e1 h3 g2 vi h0 h1, b, k', by rw [Nat.add_assoc], g1⟩ rfl hn
      · rename_i ds e2
        split at hp
        · rename_i d hd
          simp only [e1, e2, e3, hd] at hn
          obtain ⟨⟨h0, h1⟩, h3, h4⟩ := hp
          rw [e2] at hx
          obtain ⟨cs, hr, hv'⟩ := hx
          cases hr with
          | ptr b off es hb hc hr =>
            have hv' : a.eval x = .pointer (some ⟨b, off, none⟩) := hv'
            have hnav : nav (.agg ds) [n.toNat] = some (d, D.sizes (ds.take n.toNat) + 0) := by simp only [nav, hd]
            obtain ⟨es', k1, k2⟩ := part_cells hc hr hnav
            refine Computes.wp (r := ⟨_, .dat (.ptr d), []⟩) h ⟨_, arrAddr_run hop e1 h3 hv' vi h0 h1, _, .ptr b (off + n.toNat * P.cellsOf e) es' hb ?_ k2, rfl⟩ rfl hn
            rw [h4]
            exact k1
        · exact hp.elim
      · exact hp.elim
    · exact hp.elim
  | slice t x lo hi mx =>
    cases mx with
    | some m => simp only [aop, hop] at hp; exact hp.elim
    | none =>
      simp only [aop, hop] at hp hn
      cases hfl : fl mf (ev st x) with
      | true => rw [hfl] at hp; exact hp.elim
      | false =>
      rw [hfl] at hp hn
      simp only [barIf] at hp hn
      obtain ⟨h1, h2⟩ := sliceA_sound h hop hp
      exact Computes.wp h h1 h2 hn
  | makeMap t r =>
    cases r with
    | some x => simp only [aop, hop] at hp; exact hp.elim
    | none =>
      simp only [aop, hop] at hp hn
      split at hp
      · rename_i k e4
        simp only [e4] at hn
        obtain ⟨p7, p8, p9⟩ := hp
        have hrun : (execOp a.eval o).run P w = .ok (.value (.map (some w.heap.size))) (w.alloc (.map #[] 0)) := by
          simp only [execOp, hop]
          rfl
        obtain ⟨hv', hrel⟩ := h.new (s := k) (s0 := none) (ob := .mp t []) (v := .map (some w.heap.size)) (x := .mpx k) (w' := w.alloc (.map #[] 0)) (M1 := fun _ => False) p7 p8 (hno (by rw [hop]; rfl) k e4) (frame_alloc w _) (fun _ h => h.elim)
          (fun k hk => by left; simp only [blkOf, Option.some.injEq] at hk; omega) ⟨w.heap.size, _, rfl, heap_alloc_new w _, MpR.new p9⟩ trivial (.inr (.inr rfl))
        refine wp_value hrun (hn hv' _ _ ?_)
        rw [e4]
        exact hrel
      · exact hp.elim
  | insert t m k v =>
    simp only [aop, hop] at hp hn
    exact ins_sound hop h hp hn
  | range t x =>
    have ea : aop P mf tb st o = match o.dst with
        | some d => rangeA P st t (ev st x) d
        | none => .bad := by simp only [aop, hop]; cases o.dst <;> rfl
    rw [ea] at hp hn
    cases e4 : o.dst with
    | none => rw [e4] at hp; exact hp.elim
    | some d =>
      rw [e4] at hp hn
      exact range_sound hop e4 h (hno (by rw [hop]; rfl) d e4) hp (by rw [e4]; exact hn)
  | entry x =>
    simp only [aop, hop] at hp hn
    exact entry_sound hop h hp hn
  | next x b =>
    cases b with
    | true =>
      simp only [aop, hop] at hp hn
      exact nextS_sound hop h hp hn
    | false =>
      simp only [aop, hop] at hp
      exact hp.elim
  | makeSlice t x y =>
    simp only [aop, hop] at hp hn
    split at hp
    · rename_i k e4
      split at hp
      · rename_i e kl n kc m e1 e2 e3
        split at hp
        · rename_i z hz
          simp only [e1, e2, e3, e4, hz] at hn
          obtain ⟨⟨p1, p2⟩, p3, p4, p5, p6, p7, p8, p9⟩ := hp
          exact make_sound h (hno (by rw [hop]; rfl)) hop e1 (ev_lit h e2).1 (ev_lit h e3).1 e4 hz p1 p2 p3 p4 p5 p6 p7 p8 p9 hn
        · exact hp.elim
      · exact hp.elim
    · exact hp.elim
  | buildSlice t n parts =>
    simp only [aop, hop] at hp hn
    split at hp
    · rename_i em
      simp only [em] at hn
      exact buildO_sound h hop hp hn
    rename_i em
    simp only [em] at hn
    split at hp
    · rename_i k e3
      split at hp
      · rename_i e ds e1 e2
        split at hp
        · rename_i e4
          simp only [e1, e2, e3] at hn
          simp only [e4] at hn
          obtain ⟨p0, p1, p2, p3⟩ := hp
          subst p0
          obtain ⟨i, hi⟩ := isSome_ex p1
          have hrun : (execOp a.eval o).run P w = .ok (.value (.slice (some ⟨w.heap.size, 0, none⟩) 0 0)) (w.alloc (.cells #[] e)) := by
            have e5 : parts = #[] := by rw [← Array.toArray_toList (xs := parts), e4]
            subst e5
            simp only [execOp, hop]
            simp [Instr.buildSlice, run_underlying e1, sizeOf, typeInfo, hi, Instr.fill, run_newRow, show Array.range 0 = #[] from rfl]
          obtain ⟨hv', hrel⟩ := h.new (s := k) (s0 := none) (ob := .row (P.cellsOf e) e []) (v := .slice (some ⟨w.heap.size, 0, none⟩) 0 0) (x := .row k) (w' := w.alloc (.cells #[] e)) (M1 := fun _ => False) p2 p3 (hno (by rw [hop]; rfl) k e3) (frame_alloc w _) (fun _ h => h.elim)
            (fun k hk => by left; simp only [blkOf, Option.some.injEq] at hk; omega) ⟨[], ownsRow_new #[] (by simp) (Nat.le_refl _) (by simp [maxLen]) (by simp) (by simp), rfl, fun i d cs h1 => by simp at h1⟩ trivial (.inr (.inl rfl))
          refine wp_value hrun (hn hv' _ _ ?_)
          rw [e3]
          exact hrel
        · rename_i e4
          simp only [e1, e2, e3] at hn
          simp only [e4] at hn
          cases hrb : mf (rowb t) with
          | true =>
            rw [hrb] at hp hn
            obtain ⟨⟨p0, p1, p2, p3, p4, p5⟩, p6, p7⟩ := hp
            have hrep : RepVs N (Fr F0 w0 hv st w) w ds (parts.toList.map fun p => a.eval p.2) := by
              have := datas_rep h (parts.toList.map (·.2)) ds (by rw [List.map_map]; exact e2)
              rw [List.map_map] at this
              exact this
            refine buildRow_sound h hop e1 hrep p0 p1 p2 p3 p4 p5 e3 (hno (by rw [hop]; rfl) k e3) p6 p7 (fun hv' a' w' hr => hn hv' a' w' ?_)
            exact hr
          | false =>
          rw [hrb] at hp hn
          obtain ⟨p0, p1, p2, p3, p4, p5⟩ := hp
          have hrep : RepVs N (Fr F0 w0 hv st w) w ds (parts.toList.map fun p => a.eval p.2) := by
            have := datas_rep h (parts.toList.map (·.2)) ds (by rw [List.map_map]; exact e2)
            rw [List.map_map] at this
            exact this
          refine buildSlice_sound h hop e1 hrep p0 p1 p2 p3 p4 p5 (fun hv' a' w' hr => hn hv' a' w' ?_)
          rw [apply_nil, ← e3]
          exact hr
      · exact hp.elim
    · exact hp.elim
  | call c =>
    obtain ⟨callee, args, ts⟩ := c
    cases callee with
    | value f =>
      cases f with
      | func f =>
        simp only [aop, hop] at hp hn
        exact callA_sound htb h ⟨_, hop, rfl⟩ (hno (by rw [hop]; rfl)) hp hn
      | tmp t =>
        simp only [aop, hop] at hp hn
        split at hp
        · rename_i f cs hf
          simp only [hf] at hn
          exact callF_sound htb h hop hf hp hn
        · rename_i hcl
          simp only [hcl] at hn
          split at hp
          · rename_i f hf
            simp only [hf] at hn
            unfold callP at hp hn
            cases hfp : mf fnp with
            | true =>
              rw [hfp] at hp hn
              exact callF0_sound htb h hop hf hp hn
            | false =>
            rw [hfp] at hp hn
            exact callA_sound htb h ⟨_, hop, fnOf_eval h hf⟩ (hno (by rw [hop]; rfl)) hp hn
          · exact hp.elim
      | _ => simp only [aop, hop] at hp; exact hp.elim
    | invoke r m => simp only [aop, hop] at hp; exact hp.elim
    | builtin b =>
      cases b <;> try (simp only [aop, hop] at hp; exact hp.elim)
      case append =>
        simp only [aop, hop] at hp hn
        split at hp
        · rename_i t t' s x e1 e2
          split at hp
          · rename_i e3
            subst e3
            simp only [e1, e2, if_true] at hn
            cases hab : appBad mf s (ev st s) with
            | true => rw [hab] at hp; exact hp.elim
            | false =>
            rw [hab] at hp hn
            simp only [barIf] at hp hn
            exact append_sound h (hno (by rw [hop]; rfl)) hop e2 e1 hp hn
          · exact hp.elim
        · exact hp.elim
      case max =>
        simp only [aop, hop] at hp hn
        split at hp
        · rename_i x y e2
          simp only [e2] at hn
          have ha' : args = #[x, y] := by rw [← Array.toArray_toList (xs := args), e2]
          unfold mmA at hp hn
          split at hp
          · rename_i k n k' m g1 g2
            simp only [g1, g2] at hn
            refine Computes.wp h ⟨_, ?_, rep_of_lit rfl⟩ rfl hn
            simp only [execOp, hop, resolve, ha']
            simp [invoke, builtin, Builtin.max_, Builtin.max2, (ev_lit h g1).1, (ev_lit h g2).1]
          · exact hp.elim
        · exact hp.elim
      case min =>
        simp only [aop, hop] at hp hn
        split at hp
        · rename_i x y e2
          simp only [e2] at hn
          have ha' : args = #[x, y] := by rw [← Array.toArray_toList (xs := args), e2]
          unfold mmA at hp hn
          split at hp
          · rename_i k n k' m g1 g2
            simp only [g1, g2] at hn
            refine Computes.wp h ⟨_, ?_, rep_of_lit rfl⟩ rfl hn
            simp only [execOp, hop, resolve, ha']
            simp [invoke, builtin, Builtin.min_, Builtin.min2, (ev_lit h g1).1, (ev_lit h g2).1]
          · exact hp.elim
        · exact hp.elim
      case len =>
        simp only [aop, hop] at hp hn
        split at hp
        · rename_i e x e1 e2
          obtain ⟨t, ht, hu⟩ := Option.bind_eq_some_iff.1 e1
          have ha' : args = #[x] := by
            rw [← Array.toArray_toList (xs := args), e2]
          cases hfl : fl mf (ev st x) with
          | true => rw [hfl] at hp; exact hp.elim
          | false =>
          rw [hfl] at hp
          simp only [barIf] at hp
          have hl := lenA_sound (P := P) (o := o) h hp (fun A n c hv' => by
            simp only [execOp, hop, resolve, ha']
            simp [invoke, builtin, Builtin.len_, ht, hv', run_underlying hu, goInt])
          simp only [e1, e2, hfl, barIf] at hn
          exact Computes.wp h hl.1 hl.2 hn
        · rename_i x e1 e2
          obtain ⟨t, ht, hu⟩ := Option.bind_eq_some_iff.1 e1
          have ha' : args = #[x] := by
            rw [← Array.toArray_toList (xs := args), e2]
          cases hfl : fl mf (ev st x) with
          | true => rw [hfl] at hp; exact hp.elim
          | false =>
          rw [hfl] at hp
          simp only [barIf] at hp
          unfold strLen at hp
          split at hp
          · rename_i s g1
            simp only [e1, e2, hfl, barIf, strLen, g1] at hn
            refine Computes.wp h ⟨_, ?_, rep_of_lit rfl⟩ rfl hn
            simp only [execOp, hop, resolve, ha']
            simp [invoke, builtin, Builtin.len_, ht, (ev_lit h g1).1, run_underlying hu, goInt]
          · exact hp.elim
        · exact hp.elim
  | _ => simp only [aop, hop] at hp; exact hp.elim
end Go.Proofs.Ytpggfnggffedlaa.Ae

namespace Go.Proofs.Ytpggfnggffedlaa.Ae
open Go Go.RowKit
inductive Gd where
  | go
  | no
  | test (t : Nat) (c b : Bool)
  | bad
def gd (ops : Array Oper) (st : St) (o : Oper) : Gd := match o.guard with
  | none => .go
  | some (g, b) => match (ops[g]?).bind (·.dst) with
    | some t => match st.get t with
      | .dat (.lit (.bool c)) => .test t c b
      | .und => .no
      | _ => .bad
    | none => .bad
def astep (P : Program) (mf : FuncId → Bool) (tb : FuncId → Option Ct) (ops : Array Oper) (o : Oper) (st : St) (K : St → Prop) : Prop := match gd ops st o with
  | .go => (aop P mf tb st o).pre ∧ K (st.apply o.dst (aop P mf tb st o))
  | .no => K (st.put o.dst .und)
  | .test t c b => (c = b → (aop P mf tb (st.put (some t) (.dat (.lit (.bool b)))) o).pre ∧ K ((st.put (some t) (.dat (.lit (.bool b)))).apply o.dst (aop P mf tb (st.put (some t) (.dat (.lit (.bool b)))) o))) ∧
      (c = !b → K ((st.put (some t) (.dat (.lit (.bool (!b))))).put o.dst .und))
  | .bad => False
def aops (P : Program) (mf : FuncId → Bool) (tb : FuncId → Option Ct) (ops : Array Oper) : List Oper → St → (St → Prop) → Prop
  | [], st, K => K st
  | o :: r, st, K => astep P mf tb ops o st fun st' => aops P mf tb ops r st' K
section
variable {P : Program} {mf : FuncId → Bool} {tb : FuncId → Option Ct} {N : NR} {F0 : Nat → Prop} {M0 : Nat → Nat → Prop} {w0 : World} {hv : Nat → Value} {st : St} {a : Act} {w : World} {o : Oper} {ops : Array Oper} {Q : Exit → Act → World → Prop}
def dec (ops : Array Oper) (st : St) (o : Oper) : Option Bool := match gd ops st o with
  | .go => some true
  | .no => some false
  | .test _ c b => some (c == b)
  | .bad => none
def step1 (P : Program) (mf : FuncId → Bool) (tb : FuncId → Option Ct) (ops : Array Oper) (st : St) (o : Oper) : Prop × St := match dec ops st o with
  | some true => ((aop P mf tb st o).pre, st.apply o.dst (aop P mf tb st o))
  | some false => (True, st.put o.dst .und)
  | none => (False, st)
theorem put_self (st : St) (t : Nat) {x : X} (h : st.get t = x) (hx : x ≠ .any) : st.put (some t) x = st := by
  cases st with
  | mk tm ob =>
    simp only [St.put, St.get, List.getD_eq_getElem?_getD] at h ⊢
    congr 1
    have hl : t < tm.length := by
      rcases Nat.lt_or_ge t tm.length with h' | h'
      · exact h'
      · rw [List.getElem?_eq_none h'] at h
        exact absurd h.symm hx
    rw [List.getElem?_eq_getElem hl] at h
    simp only [Option.getD_some] at h
    rw [← h]
    exact List.set_getElem_self hl
theorem gd_test {t : Nat} {c b : Bool} (h : gd ops st o = .test t c b) : st.get t = .dat (.lit (.bool c)) := by
  unfold gd at h
  split at h
  · cases h
  · split at h
    · split at h
      · rename_i e
        injection h with h1 h2 h3
        subst h1 h2
        exact e
      · cases h
      · cases h
    · cases h
theorem astep_iff {K : St → Prop} : astep P mf tb ops o st K ↔ (step1 P mf tb ops st o).1 ∧ K (step1 P mf tb ops st o).2 := by
  unfold astep step1 dec
  cases h : gd ops st o with
  | go => exact Iff.rfl
  | no => simp
  | bad => simp
  | test t c b =>
    have e := gd_test h
    simp only []
    cases c <;> cases b <;> simp [put_self st t e (by simp)]
theorem ev_refs {x : Operand} {s : Nat} (h : s ∈ (ev st x).refs) : ∃ t, x = .tmp t ∧ s ∈ (st.get t).refs := by
  cases x with
  | tmp t => exact ⟨t, rfl, h⟩
  | const v =>
    cases v with
    | agg cs => simp only [ev] at h; split at h <;> cases h
    | _ => simp only [ev] at h; split at h <;> cases h
  | global g => cases h
  | func f => cases h
theorem apply_get (dst : Option Nat) (r : Out) (t : Nat) : (st.apply dst r).get t = (st.put dst r.x).get t := rfl
theorem intOp_x (op : BinOp) (k : IntKind) (x y : Int) : (intOp op k x y).up = [] ∧ (intOp op k x y).x.refs = [] := by cases op <;> exact ⟨rfl, rfl⟩
theorem floatOp_x (op : BinOp) (k : FloatKind) (x y : Nat) : (floatOp op k x y).up = [] ∧ (floatOp op k x y).x.refs = [] := by cases op <;> exact ⟨rfl, rfl⟩
theorem strOp_x (op : BinOp) (x y : ByteArray) : (strOp op x y).up = [] ∧ (strOp op x y).x.refs = [] := by cases op <;> exact ⟨rfl, rfl⟩
theorem strA_x (u v : Option TypeDesc) (x : X) : (strA P st u v x).up = [] ∧ (strA P st u v x).x.refs = [] := by
  unfold strA
  split
  · split <;> exact ⟨rfl, rfl⟩
  · split <;> exact ⟨rfl, rfl⟩
  · exact ⟨rfl, rfl⟩
theorem binA_x (op : BinOp) (t : TypeId) (x y : X) : (binA P op t x y).up = [] ∧ (binA P op t x y).x.refs = [] := by
  unfold binA
  split
  · split
    · exact intOp_x ..
    · exact intOp_x ..
    · split
      · exact intOp_x ..
      · exact ⟨rfl, rfl⟩
  · exact strOp_x ..
  · split
    · exact floatOp_x ..
    · exact ⟨rfl, rfl⟩
  · split <;> exact ⟨rfl, rfl⟩
  · split <;> exact ⟨rfl, rfl⟩
  · split <;> exact ⟨rfl, rfl⟩
  · split
    · split <;> exact ⟨rfl, rfl⟩
    · exact ⟨rfl, rfl⟩
  · exact ⟨rfl, rfl⟩
theorem unA_x (op : UnOp) (x : X) : (unA op x).up = [] ∧ (unA op x).x.refs = [] := by
  unfold unA
  split
  · split <;> exact ⟨rfl, rfl⟩
  · split <;> exact ⟨rfl, rfl⟩
  · split <;> exact ⟨rfl, rfl⟩
  · exact ⟨rfl, rfl⟩
theorem pickA_x (c x y : X) : (pickA c x y).up = [] ∧ ∀ s ∈ (pickA c x y).x.refs, s ∈ x.refs ∨ s ∈ y.refs := by
  unfold pickA
  split
  · split
    · exact ⟨rfl, fun s h => by cases h⟩
    · refine ⟨rfl, fun s h => ?_⟩
      simp only [] at h
      split at h
      · exact .inl h
      · exact .inr h
  · exact ⟨rfl, fun s h => by cases h⟩
theorem resX_refs (ds : List D) : (resX ds).refs = [] := by
  have key : ∀ ds : List D, ((ds.map Rv.dat).flatMap Rv.refs) = [] := by
    intro ds
    induction ds with
    | nil => rfl
    | cons d ds ih => simp [Rv.refs, ih]
  match ds with
  | [] => rfl
  | [d] => rfl
  | _ :: _ :: _ => exact key _
theorem resM_refs (ids : List Nat) (rs : List Rv) : ∀ s ∈ (resM ids rs).refs, s ∈ ids := by
  have one : ∀ r : Rv, ∀ s ∈ (r.to ids).refs, s ∈ ids := by
    intro r s hs
    cases r with
    | dat d => cases hs
    | ref i =>
      simp only [Rv.to] at hs
      split at hs
      · rename_i o ho
        simp only [Rv.refs, List.mem_singleton] at hs
        rw [hs]
        exact List.mem_of_getElem? ho
      · cases hs
  have many : ∀ rs : List Rv, ∀ s ∈ (rs.map (Rv.to ids)).flatMap Rv.refs, s ∈ ids := by
    intro rs s hs
    obtain ⟨r, hr, hs⟩ := List.mem_flatMap.1 hs
    obtain ⟨r0, _, rfl⟩ := List.mem_map.1 hr
    exact one r0 s hs
  match rs with
  | [] => exact many []
  | [r] =>
    intro s hs
    have : (r.to ids).x.refs = (r.to ids).refs := by cases r.to ids <;> rfl
    have hs : s ∈ (r.to ids).x.refs := hs
    rw [this] at hs
    exact one r s hs
  | _ :: _ :: _ => exact many _
theorem refIds_refs : ∀ (xs : List X) (md : List Bool), ∀ s ∈ refIds xs md, ∃ x ∈ xs, s ∈ x.refs := by
  intro xs
  induction xs with
  | nil => intro md s hs; cases md <;> cases hs
  | cons x xs ih =>
    intro md s hs
    unfold refIds at hs
    split at hs
    · rename_i e
      injection e with e1 e3
      subst e1 e3
      rcases List.mem_cons.1 hs with rfl | hs
      · exact ⟨.obj s [] 0, by simp, by simp [X.refs]⟩
      · obtain ⟨y, hy, h⟩ := ih _ s hs
        exact ⟨y, by simp [hy], h⟩
    · rename_i e
      injection e with e1 e3
      subst e1 e3
      obtain ⟨y, hy, h⟩ := ih _ s hs
      exact ⟨y, by simp [hy], h⟩
    · cases hs
theorem callC_refs (b : Bool) (g : List D → Prop × List D) (xs : List X) : (callC b st g xs).x.refs = [] := by
  unfold callC
  cases b with
  | false => simp only; split <;> first | exact resX_refs _ | rfl
  | true =>
    simp only
    split
    · split <;> exact resX_refs _
    · rfl
theorem callA_refs (f : FuncId) (xs : List X) : ∀ s ∈ (callA mf tb st o.dst f xs).x.refs, (∃ x ∈ xs, s ∈ x.refs) ∨ o.dst = some s := by
  intro s hs
  unfold callA at hs
  split at hs
  · rw [callC_refs] at hs; cases hs
  · split at hs
    · rename_i x r e2
      split at hs
      · rename_i oo lo n ew
        split at hs
        · unfold callW at hs
          have hx : oo ∈ x.refs := by
            unfold winOf at ew
            split at ew
            · split at ew
              · simp only [Option.some.injEq, Prod.mk.injEq] at ew
                obtain ⟨rfl, _⟩ := ew
                simp [X.refs]
              · cases ew
            · split at ew
              · simp only [Option.some.injEq, Prod.mk.injEq] at ew
                obtain ⟨rfl, _⟩ := ew
                simp [X.refs]
              · cases ew
            · cases ew
          have hr : ∀ (q : Option Wr), s ∈ (resW oo q).refs → s = oo := by
            intro q hq
            cases q with
            | none => cases hq
            | some q => cases q <;> simp [resW, X.refs] at hq <;> exact hq
          split at hs
          · have := hr _ hs
            subst this
            exact .inl ⟨x, by simp, hx⟩
          · cases hs
        · cases hs
      · rw [callC_refs] at hs; cases hs
    · cases hs
    · rw [callC_refs] at hs; cases hs
  · split at hs
    · unfold callO at hs
      split at hs
      · rename_i s' ps e1 e2
        simp only [X.refs, List.mem_singleton] at hs
        subst hs
        exact .inr e1
      · cases hs
    · cases hs
  · split at hs
    · unfold callB at hs
      split at hs
      · rename_i s' ps e1 e2
        simp only [X.refs, List.mem_singleton] at hs
        subst hs
        exact .inr e1
      · cases hs
    · cases hs
  · split at hs
    · unfold callMp at hs
      split at hs
      · split at hs
        · rw [resX_refs] at hs; cases hs
        · cases hs
      · cases hs
    · cases hs
  · split at hs
    · cases hs
    · split at hs
      · exact .inl (refIds_refs _ _ s (resM_refs _ _ s hs))
      · cases hs
  · cases hs
theorem strIdx_x (u : Option TypeDesc) (x y : X) : (strIdx P u x y).up = [] ∧ (strIdx P u x y).x.refs = [] := by
  unfold strIdx
  split
  · exact ⟨rfl, rfl⟩
  · split <;> exact ⟨rfl, rfl⟩
  · exact ⟨rfl, rfl⟩
theorem sliceA_x (t : TypeId) (x : X) (lo hi : Option X) : (sliceA P st t x lo hi).up = [] ∧ ∀ s ∈ (sliceA P st t x lo hi).x.refs, s ∈ x.refs := by
  unfold sliceA
  split
  · split
    · split <;> exact ⟨rfl, fun s h => by cases h⟩
    · split
      · split
        · exact ⟨rfl, fun s h => h⟩
        · exact ⟨rfl, fun s h => by cases h⟩
      · exact ⟨rfl, fun s h => by cases h⟩
    · split
      · split
        · exact ⟨rfl, fun s h => h⟩
        · exact ⟨rfl, fun s h => by cases h⟩
      · exact ⟨rfl, fun s h => by cases h⟩
    · exact ⟨rfl, fun s h => by cases h⟩
  · split
    · exact ⟨rfl, fun s h => h⟩
    · exact ⟨rfl, fun s h => by cases h⟩
  · unfold strSl
    split
    · split <;> exact ⟨rfl, fun s h => by cases h⟩
    · exact ⟨rfl, fun s h => by cases h⟩
  · exact ⟨rfl, fun s h => by cases h⟩
theorem strLen_x (x : X) : (strLen x).up = [] ∧ (strLen x).x.refs = [] := by
  unfold strLen
  split <;> exact ⟨rfl, rfl⟩
theorem lenA_x (x : X) : (lenA st x).up = [] ∧ (lenA st x).x.refs = [] := by
  unfold lenA
  split
  · exact ⟨rfl, rfl⟩
  · exact ⟨rfl, rfl⟩
  · split <;> exact ⟨rfl, rfl⟩
  · split <;> exact ⟨rfl, rfl⟩
  · exact ⟨rfl, rfl⟩
theorem mmA_x (hi : Bool) (x y : X) : (mmA hi x y).up = [] ∧ (mmA hi x y).x.refs = [] := by
  unfold mmA
  split <;> exact ⟨rfl, rfl⟩
theorem appendA_refs (dst : Option Nat) (t : TypeId) (x y : X) : ∀ s ∈ (appendA P st dst t x y).x.refs, dst = some s := by
  intro s hs
  unfold appendA at hs
  split at hs
  · split at hs
    · simp only [X.refs, List.mem_singleton] at hs
      rw [hs]
    · split at hs
      · simp only [X.refs, List.mem_singleton] at hs
        rw [hs]
      · split at hs
        · simp only [X.refs, List.mem_singleton] at hs
          rw [hs]
        · cases hs
  · cases hs
theorem barIf_refs {b : Bool} {r : Out} {s : Nat} (h : s ∈ (barIf b r).x.refs) : s ∈ r.x.refs := by
  cases b with
  | true => cases h
  | false => exact h
theorem barIf_up {b : Bool} {r : Out} (h : r.up = []) : (barIf b r).up = [] := by
  cases b with
  | true => rfl
  | false => exact h
theorem makeA_refs (fn : Fn) (fs : List Operand) (xs : List X) : (makeA st fn fs xs).x.refs = [] := by
  unfold makeA
  split <;> rfl
theorem buildO_refs (u : Option TypeDesc) (n : Nat) (ks : List Nat) (xs : List X) : (buildO P st u n ks xs).x.refs = [] := by
  unfold buildO
  split <;> rfl
theorem callF_refs (b : Bool) (f : FuncId) (cs : List D) (xs : List X) : (callF b tb st f cs xs).x.refs = [] := by
  unfold callF
  split
  · exact callC_refs _ _ _
  · rfl
theorem aop_refs : ∀ s ∈ (aop P mf tb st o).x.refs, (∃ x ∈ o.op.operands, s ∈ (ev st x).refs) ∨ (mkOp o.op = true ∧ o.dst = some s) := by
  intro s hs
  cases hop : o.op with
  | move x => simp only [aop, hop] at hs; exact .inl ⟨x, by simp [Op.operands], hs⟩
  | assign x => simp only [aop, hop] at hs; exact .inl ⟨x, by simp [Op.operands], hs⟩
  | pick c x y =>
    simp only [aop, hop] at hs
    rcases (pickA_x _ _ _).2 s hs with h | h
    · exact .inl ⟨x, by simp [Op.operands], h⟩
    · exact .inl ⟨y, by simp [Op.operands], h⟩
  | binOp op t x y t' => simp only [aop, hop] at hs; rw [(binA_x ..).2] at hs; cases hs
  | index t x y => simp only [aop, hop] at hs; rw [(strIdx_x ..).2] at hs; cases hs
  | unOp op t x => simp only [aop, hop] at hs; rw [(unA_x ..).2] at hs; cases hs
  | nilCheck x =>
    simp only [aop, hop] at hs
    split at hs
    · rename_i e; exact .inl ⟨x, by simp [Op.operands], by rw [e]; exact hs⟩
    · cases hs
    · cases hs
  | box t x =>
    simp only [aop, hop] at hs
    split at hs
    · rename_i e1 e2; simp only [X.refs, List.mem_singleton] at hs; exact .inr ⟨rfl, by rw [hs]; exact e2⟩
    · cases hs
  | alloc t =>
    simp only [aop, hop] at hs
    split at hs
    · rename_i e1 e2; simp only [X.refs, List.mem_singleton] at hs; exact .inr ⟨rfl, by rw [hs]; exact e2⟩
    · cases hs
  | fieldAddr t x i =>
    simp only [aop, hop] at hs
    split at hs
    · split at hs
      · split at hs
        · rename_i e; exact .inl ⟨x, by simp [Op.operands], by rw [e]; exact hs⟩
        · rename_i e; exact .inl ⟨x, by simp [Op.operands], by rw [e]; exact hs⟩
        · split at hs <;> cases hs
        · cases hs
      · cases hs
    · cases hs
  | indexAddr t x y =>
    simp only [aop, hop] at hs
    replace hs := barIf_refs hs
    split at hs
    · split at hs
      · split at hs <;> cases hs
      · split at hs
        · rename_i e _ _ _ _ _; exact .inl ⟨x, by simp [Op.operands], by rw [e]; exact hs⟩
        · cases hs
      · split at hs
        · rename_i e _ _ _ _ _; exact .inl ⟨x, by simp [Op.operands], by rw [e]; exact hs⟩
        · cases hs
      · cases hs
    · split at hs
      · rename_i e; exact .inl ⟨x, by simp [Op.operands], by rw [e]; exact hs⟩
      · rename_i e; exact .inl ⟨x, by simp [Op.operands], by rw [e]; exact hs⟩
      · split at hs <;> cases hs
      · cases hs
    · cases hs
  | extract x i =>
    simp only [aop, hop] at hs
    split at hs
    · rename_i rs e
      split at hs
      · rename_i r hr
        refine .inl ⟨x, by simp [Op.operands], ?_⟩
        rw [e]
        refine List.mem_flatMap.2 ⟨r, List.mem_of_getElem? hr, ?_⟩
        cases r <;> exact hs
      · cases hs
    · cases hs
  | slice t x lo hi mx =>
    cases mx with
    | some m => simp only [aop, hop] at hs; cases hs
    | none =>
      simp only [aop, hop] at hs
      replace hs := barIf_refs hs
      exact .inl ⟨x, by simp [Op.operands], (sliceA_x ..).2 s hs⟩
  | insert t m k v =>
    exfalso
    simp only [aop, hop, insA] at hs
    (repeat' split at hs) <;> simp [X.refs, Out.bad] at hs
  | range t x =>
    simp only [aop, hop] at hs
    split at hs
    · rename_i d e
      have key : s ∈ [d] := by
        unfold rangeA at hs
        (repeat' split at hs) <;> first | exact hs | (simp [X.refs, Out.bad] at hs)
      exact .inr ⟨rfl, by rw [e, List.mem_singleton.1 key]⟩
    · simp [X.refs, Out.bad] at hs
  | entry x =>
    exfalso
    simp only [aop, hop, entryA] at hs
    (repeat' split at hs) <;> simp [X.refs, Rv.refs, Out.bad] at hs
  | next x b =>
    exfalso
    cases b with
    | false => simp [aop, hop, X.refs, Out.bad] at hs
    | true =>
      simp only [aop, hop, nextA] at hs
      (repeat' split at hs) <;> simp [X.refs, Rv.refs, Out.bad] at hs
  | makeMap t r =>
    cases r with
    | some x => simp only [aop, hop] at hs; cases hs
    | none =>
      simp only [aop, hop] at hs
      split at hs
      · rename_i e4
        simp only [X.refs, List.mem_singleton] at hs; exact .inr ⟨rfl, by rw [hs]; exact e4⟩
      · cases hs
  | makeSlice t x y =>
    simp only [aop, hop] at hs
    split at hs
    · rename_i e4
      split at hs
      · split at hs
        · simp only [X.refs, List.mem_singleton] at hs; exact .inr ⟨rfl, by rw [hs]; exact e4⟩
        · cases hs
      · cases hs
    · cases hs
  | makeFunc fn first captured => simp only [aop, hop] at hs; rw [makeA_refs] at hs; cases hs
  | buildSlice t n parts =>
    simp only [aop, hop] at hs
    split at hs
    · rw [buildO_refs] at hs; cases hs
    split at hs
    · rename_i e4
      split at hs
      · split at hs
        · simp only [X.refs, List.mem_singleton] at hs; exact .inr ⟨rfl, by rw [hs]; exact e4⟩
        · split at hs
          · simp only [X.refs, List.mem_singleton] at hs; exact .inr ⟨rfl, by rw [hs]; exact e4⟩
          · cases hs
      · cases hs
    · cases hs
  | call c =>
    obtain ⟨callee, args, ts⟩ := c
    cases callee with
    | value f =>
      cases f with
      | func f =>
        simp only [aop, hop] at hs
        rcases callA_refs f _ s hs with ⟨x, hx, h⟩ | h
        · obtain ⟨y, hy, rfl⟩ := List.mem_map.1 hx
          refine .inl ⟨y, ?_, h⟩
          simp only [Op.operands, Call.operands]
          exact Array.mem_append.2 (.inr (Array.mem_toList_iff.1 hy))
        · exact .inr ⟨rfl, h⟩
      | tmp t =>
        simp only [aop, hop] at hs
        split at hs
        · rw [callF_refs] at hs; cases hs
        split at hs
        · rename_i f _
          unfold callP at hs
          cases hfp : mf fnp with
          | true => rw [hfp] at hs; simp only [] at hs; rw [callF_refs] at hs; cases hs
          | false =>
          rw [hfp] at hs
          rcases callA_refs f _ s hs with ⟨x, hx, h⟩ | h
          · obtain ⟨y, hy, rfl⟩ := List.mem_map.1 hx
            refine .inl ⟨y, ?_, h⟩
            simp only [Op.operands, Call.operands]
            exact Array.mem_append.2 (.inr (Array.mem_toList_iff.1 hy))
          · exact .inr ⟨rfl, h⟩
        · cases hs
      | _ => simp only [aop, hop] at hs; cases hs
    | invoke r m => simp only [aop, hop] at hs; cases hs
    | builtin b =>
      cases b <;> try (simp only [aop, hop] at hs; cases hs; done)
      case append =>
        simp only [aop, hop] at hs
        split at hs
        · split at hs
          · exact .inr ⟨rfl, appendA_refs _ _ _ _ s (barIf_refs hs)⟩
          · cases hs
        · cases hs
      case max =>
        simp only [aop, hop] at hs
        split at hs
        · rw [(mmA_x _ _ _).2] at hs; cases hs
        · cases hs
      case min =>
        simp only [aop, hop] at hs
        split at hs
        · rw [(mmA_x _ _ _).2] at hs; cases hs
        · cases hs
      case len =>
        simp only [aop, hop] at hs
        split at hs
        · replace hs := barIf_refs hs
          rw [(lenA_x _).2] at hs; cases hs
        · replace hs := barIf_refs hs
          rw [(strLen_x _).2] at hs; cases hs
        · cases hs
  | load t x =>
    exfalso
    simp only [aop, hop] at hs
    replace hs := barIf_refs hs
    (repeat' split at hs) <;> cases hs
  | store t x y =>
    exfalso
    simp only [aop, hop, barIf] at hs
    (repeat' split at hs) <;> cases hs
  | convert t u x =>
    exfalso
    simp only [aop, hop] at hs
    split at hs
    · have := barIf_refs hs
      rw [(strA_x ..).2] at this
      cases this
    (repeat' split at hs) <;> cases hs
  | build t parts =>
    exfalso
    simp only [aop, hop] at hs
    (repeat' split at hs) <;> cases hs
  | _ => simp only [aop, hop] at hs; cases hs
def Fresh (l : List Oper) (st : St) : Prop := ∀ x ∈ l, mkOp x.op = true → ∀ s, x.dst = some s → noref st s
def Apart (l : List Oper) : Prop := l.Pairwise fun x y => (mkOp x.op = true ∨ mkOp y.op = true) → ∀ s, x.dst = some s → y.dst ≠ some s
theorem noref_put {s : Nat} (h : noref st s) {dst : Option Nat} {x : X} (hx : s ∉ x.refs) : noref (st.put dst x) s := by
  intro t
  rw [put_get]
  split
  · exact hx
  · exact h t
theorem step1_noref {s : Nat} (h : noref st s) (hs : mkOp o.op = true → o.dst ≠ some s) : noref (step1 P mf tb ops st o).2 s := by
  unfold step1
  split
  · have : noref (st.put o.dst (aop P mf tb st o).x) s := by
      refine noref_put h (fun hm => ?_)
      rcases aop_refs s hm with ⟨x, _, hx⟩ | ⟨h1, h2⟩
      · obtain ⟨t, rfl, ht⟩ := ev_refs hx
        exact h t ht
      · exact hs h1 h2
    intro t
    exact this t
  · exact noref_put h (by simp [X.refs])
  · exact h
theorem Fresh.step {l : List Oper} (h : Fresh (o :: l) st) (ha : ∀ x ∈ l, (mkOp o.op = true ∨ mkOp x.op = true) → ∀ s, o.dst = some s → x.dst ≠ some s) : Fresh l (step1 P mf tb ops st o).2 := by
  intro x hx hm s hs
  refine step1_noref (h x (by simp [hx]) hm s hs) (fun hmo hd => ha x hx (.inl hmo) s hd hs)
end
end Go.Proofs.Ytpggfnggffedlaa.Ae

namespace Go.Proofs.Ytpggfnggffedlaa.Ae
open Go Go.RowKit
variable {P : Program} {mf : FuncId → Bool} {tb : FuncId → Option Ct} {N : NR} {F0 : Nat → Prop} {M0 : Nat → Nat → Prop} {w0 : World} {hv : Nat → Value} {st : St} {a : Act} {w : World} {o : Oper} {ops : Array Oper} {Q : Exit → Act → World → Prop}
inductive Kd where
  | pure
  | load
  | alloc
  | store
  | late
  deriving DecidableEq
def kdOf (mf : FuncId → Bool) : Op → Kd
  | .load _ _ => .load
  | .indexAddr _ _ _ => .load
  | .slice _ _ _ _ _ => .load
  | .call { callee := .builtin .len, .. } => .load
  | .box _ _ => .alloc
  | .alloc _ => .alloc
  | .makeSlice _ _ _ => .alloc
  | .makeMap _ _ => .alloc
  | .buildSlice t n _ => if (mf (bld t) && n != 0) then .store else .alloc
  | .makeFunc _ _ _ => .store
  | .insert _ _ _ _ => .store
  | .range _ _ => .store
  | .entry _ => .store
  | .next _ _ => .store
  | .store _ a _ => if lateS mf a then .late else .store
  | .call { callee := .builtin .append, args := args, .. } => match args.toList with
    | x :: _ => if lateS mf x then .late else .store
    | [] => .store
  | .call { callee := .value (.func f), .. } => if mf f then .store else .pure
  | .call { callee := .value (.tmp _), .. } => if mf fnp then .pure else .store
  | .build t _ => if mf (bld t) then .store else .pure
  | .convert _ _ _ => if mf strc then .load else .pure
  | _ => .pure
def kdOk : Kd → Kd → Bool
  | .store, .pure => true
  | .store, .alloc => true
  | .store, _ => false
  | .pure, .store => true
  | .alloc, .store => true
  | _, .store => false
  | .late, .pure => true
  | .late, .load => true
  | .late, .alloc => true
  | .late, _ => false
  | .pure, .late => true
  | .load, .late => true
  | .alloc, .late => true
  | _, _ => true
def free2 (mf : FuncId → Bool) (ops : Array Oper) (x y : Oper) : Bool := x.apart ops y && kdOk (kdOf mf x.op) (kdOf mf y.op)
theorem alloc_mk {x : Op} (h : kdOf mf x = .alloc) : mkOp x = true := by
  unfold kdOf at h
  split at h <;> first | rfl | (cases h; done) | (split at h <;> cases h; done) | (split at h <;> first | (cases h; done) | (split at h <;> cases h))
theorem kd_app {args : Array Operand} {ts : Array TypeId} : kdOf mf (.call ⟨.builtin .append, args, ts⟩) = .store ∨ kdOf mf (.call ⟨.builtin .append, args, ts⟩) = .late := by
  simp only [kdOf]
  split
  · split
    · exact .inr rfl
    · exact .inl rfl
  · exact .inl rfl
theorem aop_up (hk : kdOf mf o.op = .pure ∨ kdOf mf o.op = .load) : (aop P mf tb st o).up = [] := by
  cases hop : o.op with
  | box t x => rw [hop] at hk; simp [kdOf] at hk
  | alloc t => rw [hop] at hk; simp [kdOf] at hk
  | makeSlice t x y => rw [hop] at hk; simp [kdOf] at hk
  | makeMap t r => rw [hop] at hk; simp [kdOf] at hk
  | insert t m k v => rw [hop] at hk; simp [kdOf] at hk
  | range t x => rw [hop] at hk; simp [kdOf] at hk
  | entry x => rw [hop] at hk; simp [kdOf] at hk
  | next x b => rw [hop] at hk; simp [kdOf] at hk
  | buildSlice t n p =>
    rw [hop] at hk
    simp only [kdOf] at hk
    rcases hk with hk | hk <;> split at hk <;> cases hk
  | makeFunc f x y => rw [hop] at hk; simp [kdOf] at hk
  | store t x y =>
    rw [hop] at hk
    simp only [kdOf] at hk
    rcases hk with hk | hk <;> split at hk <;> cases hk
  | build t parts =>
    rw [hop] at hk
    have hf : mf (bld t) = false := by
      cases h : mf (bld t)
      · rfl
      · simp [kdOf, h] at hk
    simp only [aop, hop]
    rw [hf]
    simp only []
    split <;> rfl
  | pick c x y => simp only [aop, hop]; exact (pickA_x ..).1
  | binOp op t x y t' => simp only [aop, hop]; exact (binA_x ..).1
  | convert s d x =>
    simp only [aop, hop]
    split
    · exact barIf_up (strA_x ..).1
    · (repeat' split) <;> rfl
  | unOp op t x => simp only [aop, hop]; exact (unA_x ..).1
  | index t x y => simp only [aop, hop]; exact (strIdx_x ..).1
  | slice t x lo hi mx =>
    cases mx with
    | none => simp only [aop, hop]; exact barIf_up (sliceA_x ..).1
    | some m => simp only [aop, hop]; rfl
  | call c =>
    obtain ⟨callee, args, ts⟩ := c
    cases callee with
    | value f =>
      cases f with
      | func f =>
        rw [hop] at hk
        have hf : mf f = false := by
          cases h : mf f
          · rfl
          · simp [kdOf, h] at hk
        simp only [aop, hop]
        unfold callA
        rw [hf]
        have hC : ∀ g xs, (callC false st g xs).up = [] := fun g xs => by unfold callC; simp only; split <;> rfl
        split
        · exact hC _ _
        · split
          · rename_i h _; cases h
          · rename_i h _; cases h
          · exact hC _ _
        · rfl
        · rfl
        · rfl
        · rfl
        · rfl
      | tmp t =>
        rw [hop] at hk
        have hf : mf fnp = true := by
          cases h : mf fnp
          · simp [kdOf, h] at hk
          · rfl
        simp only [aop, hop]
        rw [hf]
        split
        · unfold callF
          split
          · unfold callC; simp only [Bool.not_true]; split <;> rfl
          · rfl
        · split
          · unfold callP
            rw [hf]
            simp only []
            unfold callF
            split
            · unfold callC; simp only []; split <;> rfl
            · rfl
          · rfl
      | _ => first | (simp only [aop, hop]; done) | (simp only [aop, hop]; rfl)
    | invoke r m => first | (simp only [aop, hop]; done) | (simp only [aop, hop]; rfl)
    | builtin b =>
      cases b <;> try (first | (simp only [aop, hop]; done) | (simp only [aop, hop]; rfl))
      case append =>
        rw [hop] at hk
        rcases kd_app (mf := mf) (args := args) (ts := ts) with e | e <;> (rw [e] at hk; simp at hk)
      case max =>
        simp only [aop, hop]
        split
        · exact (mmA_x _ _ _).1
        · rfl
      case min =>
        simp only [aop, hop]
        split
        · exact (mmA_x _ _ _).1
        · rfl
      case len =>
        simp only [aop, hop]
        split
        · exact barIf_up (lenA_x _).1
        · exact barIf_up (strLen_x _).1
        · rfl
  | load t x => simp only [aop, hop]; exact barIf_up (by (repeat' split) <;> rfl)
  | indexAddr t x y => simp only [aop, hop]; exact barIf_up (by (repeat' split) <;> rfl)
  | _ =>
    first
      | (simp only [aop, hop]; done)
      | (simp only [aop, hop]; rfl)
      | (simp only [aop, hop]; (repeat' split) <;> rfl)
theorem aop_alloc (hk : kdOf mf o.op = .alloc) : (aop P mf tb st o).up = [] ∨ ∃ s ob, o.dst = some s ∧ (aop P mf tb st o).up = [(s, ob)] := by
  cases hop : o.op with
  | box t x =>
    simp only [aop, hop]
    split
    · rename_i e1 e2; exact .inr ⟨_, _, e2, rfl⟩
    · exact .inl rfl
  | alloc t =>
    simp only [aop, hop]
    split
    · rename_i e1 e2; exact .inr ⟨_, _, e2, rfl⟩
    · exact .inl rfl
  | makeMap t r =>
    cases r with
    | some x => exact .inl (by simp only [aop, hop]; rfl)
    | none =>
      simp only [aop, hop]
      split
      · rename_i e4; exact .inr ⟨_, _, e4, rfl⟩
      · exact .inl rfl
  | makeSlice t x y =>
    simp only [aop, hop]
    split
    · rename_i e4
      split
      · split
        · exact .inr ⟨_, _, e4, rfl⟩
        · exact .inl rfl
      · exact .inl rfl
    · exact .inl rfl
  | buildSlice t n p =>
    have hf : (mf (bld t) && n != 0) = false := by
      cases h : (mf (bld t) && n != 0)
      · rfl
      · rw [hop] at hk; simp only [kdOf, h] at hk; cases hk
    simp only [aop, hop]
    rw [hf]
    simp only []
    split
    · rename_i e4
      split
      · split
        · exact .inr ⟨_, _, e4, rfl⟩
        · split
          · exact .inr ⟨_, _, e4, rfl⟩
          · exact .inl rfl
      · exact .inl rfl
    · exact .inl rfl
  | call c =>
    obtain ⟨callee, args, ts⟩ := c
    rw [hop] at hk
    cases callee with
    | value f =>
      cases f with
      | func f => simp only [kdOf] at hk; split at hk <;> cases hk
      | tmp t => simp only [kdOf] at hk; split at hk <;> cases hk
      | _ => simp [kdOf] at hk
    | invoke r m => simp [kdOf] at hk
    | builtin b =>
      cases b <;> try (simp [kdOf] at hk; done)
      rcases kd_app (mf := mf) (args := args) (ts := ts) with e | e <;> (rw [e] at hk; cases hk)
  | build t parts => rw [hop] at hk; simp only [kdOf] at hk; split at hk <;> cases hk
  | store t x y => rw [hop] at hk; simp only [kdOf] at hk; split at hk <;> cases hk
  | convert s d x => rw [hop] at hk; simp only [kdOf] at hk; split at hk <;> cases hk
  | _ => rw [hop] at hk; simp [kdOf] at hk
theorem onto_id {x : X} {ob sz : Nat} {e : TypeId} {xs : List D} (h : onto st x = some (ob, sz, e, xs)) : ob ∈ x.refs := by
  unfold onto at h
  split at h
  · split at h
    · simp only [Option.some.injEq, Prod.mk.injEq] at h; rw [← h.1]; simp [X.refs]
    · cases h
  · split at h
    · split at h
      · simp only [Option.some.injEq, Prod.mk.injEq] at h; rw [← h.1]; simp [X.refs]
      · cases h
    · cases h
  · cases h
theorem appendA_up (dst : Option Nat) (t : TypeId) (s x : X) : ∀ p ∈ (appendA P st dst t s x).up, p.1 ∈ s.refs ∨ dst = some p.1 := by
  unfold appendA
  split
  · rename_i e k ys e1 _
    split
    · intro p hp
      simp only [List.mem_singleton] at hp
      subst hp
      exact .inr rfl
    · split
      · rename_i ob sz e' xs ho
        intro p hp
        simp only [List.mem_cons, List.not_mem_nil, or_false] at hp
        rcases hp with rfl | rfl
        · exact .inl (onto_id ho)
        · exact .inr rfl
      · split
        · intro p hp
          simp only [List.mem_singleton] at hp
          subst hp
          exact .inr rfl
        · intro p hp; cases hp
  · intro p hp; cases hp
theorem aop_late (hk : kdOf mf o.op = .late) : ∀ p ∈ (aop P mf tb st o).up, mf (cel p.1) = true ∨ (mkOp o.op = true ∧ o.dst = some p.1) := by
  cases hop : o.op with
  | store ty x y =>
    rw [hop] at hk
    simp only [kdOf] at hk
    have hl : lateS mf x = true := by
      cases h : lateS mf x
      · rw [h] at hk; simp at hk
      · rfl
    cases x with
    | tmp t =>
      have hm : mf (cel t) = true := hl
      simp only [aop, hop]
      cases hb : lateBad mf (.tmp t) (ev st (.tmp t)) with
      | true => intro p hp; cases hp
      | false =>
        simp only [barIf]
        cases hx : ev st (.tmp t) with
        | obj ob p off =>
          have hob : ob = t := by
            rw [hx] at hb
            simp only [lateBad, hm, Bool.true_and, bne_eq_false_iff_eq] at hb
            exact hb
          subst hob
          split
          · rename_i ob' p' off' dx e1 e2
            cases e1
            split
            · rename_i d hd
              split
              · intro p hp; simp only [List.mem_singleton] at hp; subst hp; exact .inl hm
              · intro p hp; cases hp
            · intro p hp; cases hp
          · rename_i e1 _; cases e1
          · intro p hp; cases hp
        | _ =>
          rw [hx] at hb
          simp [lateBad, hm] at hb
    | _ => simp [lateS] at hl
  | call c =>
    obtain ⟨callee, args, ts⟩ := c
    rw [hop] at hk
    cases callee with
    | value f =>
      cases f with
      | func f => simp only [kdOf] at hk; split at hk <;> cases hk
      | tmp t => simp only [kdOf] at hk; split at hk <;> cases hk
      | _ => simp [kdOf] at hk
    | invoke r m => simp [kdOf] at hk
    | builtin b =>
      cases b <;> try (simp [kdOf] at hk; done)
      simp only [aop, hop]
      split
      · rename_i t t' s x e1 e2
        split
        · simp only [kdOf, e2] at hk
          have hl : lateS mf s = true := by
            cases h : lateS mf s
            · rw [h] at hk; simp at hk
            · rfl
          cases s with
          | tmp k =>
            have hm : mf (cel k) = true := hl
            cases hb : appBad mf (.tmp k) (ev st (.tmp k)) with
            | true => intro p hp; cases hp
            | false =>
              simp only [barIf]
              intro p hp
              rcases appendA_up _ _ _ _ p hp with h | h
              · cases hx : ev st (.tmp k) with
                | row ob =>
                  have hob : ob = k := by
                    rw [hx] at hb
                    simp only [appBad, hm, Bool.true_and, bne_eq_false_iff_eq] at hb
                    exact hb
                  rw [hx, hob] at h
                  simp only [X.refs, List.mem_singleton] at h
                  rw [h]
                  exact .inl hm
                | _ =>
                  rw [hx] at hb
                  simp [appBad, hm] at hb
              · exact .inr ⟨rfl, h⟩
          | _ => simp [lateS] at hl
        · intro p hp; cases hp
      · intro p hp; cases hp
  | build t parts => rw [hop] at hk; simp only [kdOf] at hk; split at hk <;> cases hk
  | buildSlice t n parts => rw [hop] at hk; simp only [kdOf] at hk; split at hk <;> cases hk
  | convert s d x => rw [hop] at hk; simp only [kdOf] at hk; split at hk <;> cases hk
  | _ => rw [hop] at hk; simp [kdOf] at hk
theorem ev_apply {dst : Option Nat} {r : Out} {y : Operand} (h : ∀ d, dst = some d → y ≠ .tmp d) : ev (st.apply dst r) y = ev st y := by
  cases y with
  | tmp t =>
    show (st.apply dst r).get t = st.get t
    rw [apply_get, put_get, if_neg (fun hc => h t hc.1 rfl)]
  | const v => cases v <;> rfl
  | global g => rfl
  | func f => rfl
theorem gd_congr {st' : St} (h : ∀ t, t ∈ o.looksAt ops → st'.get t = st.get t) : gd ops st' o = gd ops st o := by
  unfold gd
  cases hg : o.guard with
  | none => rfl
  | some gb =>
    obtain ⟨g, b⟩ := gb
    simp only []
    cases ht : (ops[g]?).bind (·.dst) with
    | none => rfl
    | some t =>
      have : st'.get t = st.get t := h t (by simp [Oper.looksAt, hg, ht])
      simp only [this]
section
variable {st' : St}
theorem box_congr {s : Nat} (h : st'.obj s = st.obj s) : st'.box? s = st.box? s := by unfold St.box?; rw [h]
theorem wbox_congr {s : Nat} (h : st'.obj s = st.obj s) : st'.wbox? s = st.wbox? s := by unfold St.wbox?; rw [h]
theorem row_congr {s : Nat} (h : st'.obj s = st.obj s) : st'.row? s = st.row? s := by unfold St.row?; rw [h]
theorem wrow_congr {s : Nat} (h : st'.obj s = st.obj s) : st'.wrow? s = st.wrow? s := by unfold St.wrow?; rw [h]
variable {S : Nat → Prop}
def In (S : Nat → Prop) (xs : List X) : Prop := ∀ x ∈ xs, ∀ s ∈ x.refs, S s
theorem In.cons {x : X} {xs : List X} (h : In S (x :: xs)) : (∀ s ∈ x.refs, S s) ∧ In S xs := ⟨h x (by simp), fun y hy => h y (by simp [hy])⟩
theorem asData_congr (h : ∀ s, S s → st'.obj s = st.obj s) (x : X) (hx : ∀ s ∈ x.refs, S s) : asData st' x = asData st x := by
  unfold asData
  split
  · rfl
  · rw [box_congr (h _ (hx _ (by simp [X.refs])))]
  · rw [row_congr (h _ (hx _ (by simp [X.refs])))]
  · rw [row_congr (h _ (hx _ (by simp [X.refs])))]
  · rw [box_congr (h _ (hx _ (by simp [X.refs])))]
  · rfl
theorem asData_owner {x : X} {d : D} {q : Option Nat} (h : asData st x = some (d, q)) : ∀ s, q = some s → s ∈ x.refs := by
  intro s hs
  subst hs
  unfold asData at h
  split at h
  · cases h
  · split at h
    · simp only [Option.some.injEq, Prod.mk.injEq] at h; rw [← h.2]; simp [X.refs]
    · cases h
  · split at h
    · simp only [Option.some.injEq, Prod.mk.injEq] at h; rw [← h.2]; simp [X.refs]
    · cases h
  · split at h
    · split at h
      · simp only [Option.some.injEq, Prod.mk.injEq] at h; rw [← h.2]; simp [X.refs]
      · cases h
    · cases h
  · split at h
    · split at h
      · simp only [Option.some.injEq, Prod.mk.injEq] at h; rw [← h.2]; simp [X.refs]
      · cases h
    · cases h
  · cases h
theorem asDatas_congr (h : ∀ s, S s → st'.obj s = st.obj s) : ∀ xs, In S xs → asDatas st' xs = asDatas st xs
  | [], _ => rfl
  | x :: xs, hx => by simp only [asDatas, asData_congr h x hx.cons.1, asDatas_congr h xs hx.cons.2]
theorem asDatas_in : ∀ (xs : List X) (ps : List (D × Option Nat)), In S xs → asDatas st xs = some ps → ∀ s ∈ owners ps, S s
  | [], ps, _, h, s, hs => by
    simp only [asDatas, Option.some.injEq] at h
    subst h
    cases hs
  | x :: xs, ps, hx, h, s, hs => by
    simp only [asDatas] at h
    cases h1 : asData st x with
    | none => simp [h1] at h
    | some q =>
      cases h2 : asDatas st xs with
      | none => simp [h1, h2] at h
      | some qs =>
        simp only [h1, h2, Option.some.injEq] at h
        subst h
        obtain ⟨d, o⟩ := q
        cases o with
        | none => exact asDatas_in xs qs hx.cons.2 h2 s hs
        | some o =>
          rcases List.mem_cons.1 hs with rfl | hs
          · exact hx.cons.1 _ (asData_owner h1 _ rfl)
          · exact asDatas_in xs qs hx.cons.2 h2 s hs
theorem asArs_congr (h : ∀ s, S s → st'.obj s = st.obj s) (ids : List Nat) : ∀ xs, In S xs → asArs st' ids xs = asArs st ids xs
  | [], _ => rfl
  | x :: xs, hx => by
    simp only [asArs, asArs_congr h ids xs hx.cons.2]
    split
    · rfl
    · split
      · rw [box_congr (h _ (hx.cons.1 _ (by simp [X.refs])))]
      · rfl
      · rw [row_congr (h _ (hx.cons.1 _ (by simp [X.refs])))]
      · rw [row_congr (h _ (hx.cons.1 _ (by simp [X.refs])))]
      · rfl
theorem asArs_in (ids : List Nat) : ∀ (xs : List X) (ps : List (Ar × Option Nat)), In S xs → asArs st ids xs = some ps → ∀ s ∈ owners ps, S s
  | [], ps, _, h, s, hs => by
    simp only [asArs, Option.some.injEq] at h
    subst h
    cases hs
  | x :: xs, ps, hx, h, s, hs => by
    simp only [asArs] at h
    cases h2 : asArs st ids xs with
    | none => simp [h2] at h
    | some qs =>
      have ih := asArs_in ids xs qs hx.cons.2 h2
      simp only [h2] at h
      split at h
      · split at h
        · simp only [Option.some.injEq] at h; subst h; exact ih s hs
        · split at h
          · simp only [Option.some.injEq] at h
            subst h
            rcases List.mem_cons.1 hs with rfl | hs
            · exact hx.cons.1 _ (by simp [X.refs])
            · exact ih s hs
          · cases h
      · simp only [Option.some.injEq] at h; subst h; exact ih s hs
      · split at h
        · simp only [Option.some.injEq] at h
          subst h
          rcases List.mem_cons.1 hs with rfl | hs
          · exact hx.cons.1 _ (by simp [X.refs])
          · exact ih s hs
        · cases h
      · split at h
        · split at h
          · simp only [Option.some.injEq] at h
            subst h
            rcases List.mem_cons.1 hs with rfl | hs
            · exact hx.cons.1 _ (by simp [X.refs])
            · exact ih s hs
          · cases h
        · cases h
      · cases h
theorem boxesOf_congr (h : ∀ s, S s → st'.obj s = st.obj s) : ∀ ids, (∀ s ∈ ids, S s) → boxesOf st' ids = boxesOf st ids
  | [], _ => rfl
  | x :: ids, hx => by simp only [boxesOf, boxesOf_congr h ids (fun s hs => hx s (by simp [hs])), wbox_congr (h _ (hx x (by simp)))]
theorem freezes_congr (h : ∀ s, S s → st'.obj s = st.obj s) (l : List Nat) (hl : ∀ s ∈ l, S s) : freezes st' l = freezes st l := by
  unfold freezes
  refine List.map_congr_left (fun o ho => ?_)
  unfold freeze
  rw [h o (hl o ho)]
theorem allFreeze_congr (h : ∀ s, S s → st'.obj s = st.obj s) : ∀ l : List Nat, (∀ s ∈ l, S s) → allFreeze st' l = allFreeze st l
  | [], _ => rfl
  | x :: l, hx => by
    simp only [allFreeze, allFreeze_congr h l (fun s hs => hx s (by simp [hs]))]
    unfold St.mayFreeze
    rw [h x (hx x (by simp))]
theorem setBoxes_congr (h : ∀ s, S s → st'.obj s = st.obj s) : ∀ (ids : List Nat) ds, (∀ s ∈ ids, S s) → setBoxes st' ids ds = setBoxes st ids ds
  | [], [], _ => rfl
  | [], _ :: _, _ => rfl
  | _ :: _, [], _ => rfl
  | x :: ids, d :: ds, hx => by simp only [setBoxes, setBoxes_congr h ids ds (fun s hs => hx s (by simp [hs])), h x (hx x (by simp))]
theorem callC_congr (h : ∀ s, S s → st'.obj s = st.obj s) (b : Bool) (g : List D → Prop × List D) (xs : List X) (hx : In S xs) : callC b st' g xs = callC b st g xs := by
  unfold callC
  cases b with
  | false => rfl
  | true =>
    simp only [asDatas_congr h xs hx]
    cases hp : asDatas st xs with
    | none => rfl
    | some ps =>
      have ho := asDatas_in xs ps hx hp
      simp only [freezes_congr h _ ho, allFreeze_congr h _ ho]
theorem winOf_congr (h : ∀ s, S s → st'.obj s = st.obj s) (x : X) (hx : ∀ s ∈ x.refs, S s) : winOf st' x = winOf st x := by
  unfold winOf
  cases x with
  | row o => simp only [wrow_congr (h o (hx o (by simp [X.refs])))]
  | win o lo n => simp only [wrow_congr (h o (hx o (by simp [X.refs])))]
  | _ => rfl
theorem winOf_in {x : X} {o lo n : Nat} (h : winOf st x = some (o, lo, n)) : o ∈ x.refs := by
  unfold winOf at h
  split at h
  · split at h
    · simp only [Option.some.injEq, Prod.mk.injEq] at h; rw [← h.1]; simp [X.refs]
    · cases h
  · split at h
    · simp only [Option.some.injEq, Prod.mk.injEq] at h; rw [← h.1]; simp [X.refs]
    · cases h
  · cases h
theorem callA_congr (h : ∀ s, S s → st'.obj s = st.obj s) (hl : st'.ob.length = st.ob.length) (dst : Option Nat) (hd : ∀ s, dst = some s → S s) (f : FuncId) (xs : List X) (hx : In S xs) : callA mf tb st' dst f xs = callA mf tb st dst f xs := by
  unfold callA
  cases tb f with
  | none => rfl
  | some c =>
    cases c with
    | data g => exact callC_congr h _ _ _ hx
    | win sz e g gd =>
      cases hm : mf f with
      | false => exact callC_congr h false gd xs hx
      | true =>
        cases xs with
        | nil => rfl
        | cons x r =>
          simp only [winOf_congr h x hx.cons.1]
          cases hw : winOf st x with
          | none => exact callC_congr h _ _ _ hx
          | some q =>
            obtain ⟨o, lo, n⟩ := q
            have ho := hx.cons.1 _ (winOf_in hw)
            simp only [asDatas_congr h r hx.cons.2]
            cases hp : asDatas st r with
            | none => rfl
            | some ps =>
              have hos := asDatas_in r ps hx.cons.2 hp
              simp only [callW, wrow_congr (h o ho), h o ho, freezes_congr h _ hos, allFreeze_congr h _ hos]
    | own sz e g =>
      cases hm : mf f with
      | false => rfl
      | true =>
        simp only [callO, asDatas_congr h xs hx]
        cases dst with
        | none => rfl
        | some s =>
          cases hp : asDatas st xs with
          | none => rfl
          | some ps =>
            have hos := asDatas_in xs ps hx hp
            simp only [freezes_congr h _ hos, allFreeze_congr h _ hos, h s (hd s rfl), hl]
    | mp t g =>
      cases hm : mf f with
      | false => rfl
      | true =>
        simp only []
        unfold callMp
        split
        · rename_i x s r
          have hs : st'.obj s = st.obj s := h s (hx.cons.1 _ (by simp [X.refs]))
          have e : st'.mp? s = st.mp? s := by unfold St.mp?; rw [hs]
          rw [e]
        · rfl
    | ownb g =>
      cases hm : mf f with
      | false => rfl
      | true =>
        simp only [callB, asDatas_congr h xs hx]
        cases dst with
        | none => rfl
        | some s =>
          cases hp : asDatas st xs with
          | none => rfl
          | some ps =>
            have hos := asDatas_in xs ps hx hp
            simp only [freezes_congr h _ hos, allFreeze_congr h _ hos, h s (hd s rfl), hl]
    | «mut» md g =>
      cases hm : mf f with
      | false => rfl
      | true =>
        have hids : ∀ s ∈ refIds xs md, S s := fun s hs => by
          obtain ⟨x, hx', hs'⟩ := refIds_refs xs md s hs
          exact hx x hx' s hs'
        simp only [asArs_congr h _ xs hx, boxesOf_congr h _ hids]
        cases hp : asArs st (refIds xs md) xs with
        | none => rfl
        | some ps =>
          have hos := asArs_in _ xs ps hx hp
          cases boxesOf st (refIds xs md) with
          | none => rfl
          | some ds => simp only [freezes_congr h _ hos, allFreeze_congr h _ hos, setBoxes_congr h _ _ hids]
theorem elems_congr (h : ∀ s, S s → st'.obj s = st.obj s) (x : X) (hx : ∀ s ∈ x.refs, S s) : elems st' x = elems st x := by
  unfold elems
  split
  · rfl
  · rfl
  · rw [row_congr (h _ (hx _ (by simp [X.refs])))]
  · rw [row_congr (h _ (hx _ (by simp [X.refs])))]
  · rfl
theorem onto_congr (h : ∀ s, S s → st'.obj s = st.obj s) (x : X) (hx : ∀ s ∈ x.refs, S s) : onto st' x = onto st x := by
  unfold onto
  split
  · rw [h _ (hx _ (by simp [X.refs]))]
  · rw [h _ (hx _ (by simp [X.refs]))]
  · rfl
theorem arrEl_congr (h : ∀ s, S s → st'.obj s = st.obj s) (x : X) (hx : ∀ s ∈ x.refs, S s) : arrEl st' x = arrEl st x := by
  unfold arrEl
  split
  · rw [asData_congr h _ hx]
  · rfl
theorem appendA_congr (h : ∀ s, S s → st'.obj s = st.obj s) (hl : st'.ob.length = st.ob.length) (dst : Option Nat) (hd : ∀ s, dst = some s → S s) (t : TypeId) (s x : X) (hs : ∀ o ∈ s.refs, S o) (hx : ∀ o ∈ x.refs, S o) : appendA P st' dst t s x = appendA P st dst t s x := by
  unfold appendA
  rw [elems_congr h x hx]
  have ho := onto_congr h s hs
  cases dst with
  | none =>
    rcases P.underlying t with _ | u
    · rfl
    · cases u <;> rfl
  | some k =>
    have hk := h k (hd k rfl)
    cases P.underlying t with
    | none => rfl
    | some u =>
      cases u <;> try rfl
      cases elems st x with
      | none => rfl
      | some ys =>
        simp only [hk, hl]
        split
        · rfl
        · rw [ho, arrEl_congr h s hs]
theorem sliceA_congr {x : X} (h : ∀ s ∈ x.refs, st'.row? s = st.row? s) (t : TypeId) (lo hi : Option X) : sliceA P st' t x lo hi = sliceA P st t x lo hi := by
  unfold sliceA
  cases x with
  | row s => simp only [h s (by simp [X.refs])]
  | win s lo n => simp only [h s (by simp [X.refs])]
  | dat d => cases d <;> rfl
  | _ => rfl
theorem lenA_congr {x : X} (h : ∀ s ∈ x.refs, st'.row? s = st.row? s) : lenA st' x = lenA st x := by
  unfold lenA
  cases x with
  | row s => simp only [h s (by simp [X.refs])]
  | win s lo n => simp only [h s (by simp [X.refs])]
  | dat d =>
    cases d with
    | lit v => cases v <;> rfl
    | _ => rfl
  | _ => rfl
def Tch (st : St) (o : Oper) (s : Nat) : Prop := (∃ x ∈ o.op.operands, s ∈ (ev st x).refs) ∨ (mkOp o.op = true ∧ o.dst = some s)
theorem freezes_keys (l : List Nat) : ∀ p ∈ freezes st l, p.1 ∈ l := by
  intro p hp
  unfold freezes at hp
  obtain ⟨o, ho, rfl⟩ := List.mem_map.1 hp
  exact ho
theorem setBoxes_keys : ∀ (ids : List Nat) (ds : List D), ∀ p ∈ setBoxes st ids ds, p.1 ∈ ids
  | [], _, p, hp => by simp [setBoxes] at hp
  | _ :: _, [], p, hp => by simp [setBoxes] at hp
  | o :: ids, d :: ds, p, hp => by
    simp only [setBoxes, List.mem_cons] at hp
    rcases hp with rfl | hp
    · simp
    · simp [setBoxes_keys ids ds p hp]
theorem callC_keys {S : Nat → Prop} (b : Bool) (g : List D → Prop × List D) (xs : List X) (hx : In S xs) : ∀ p ∈ (callC b st g xs).up, S p.1 := by
  intro p hp
  unfold callC at hp
  cases b with
  | false => simp only at hp; split at hp <;> cases hp
  | true =>
    simp only at hp
    split at hp
    · rename_i ps e
      split at hp
      · cases hp
      · exact asDatas_in xs ps hx e _ (freezes_keys _ p hp)
    · cases hp
theorem callA_keys {S : Nat → Prop} (dst : Option Nat) (hd : ∀ s, dst = some s → S s) (f : FuncId) (xs : List X) (hx : In S xs) : ∀ p ∈ (callA mf tb st dst f xs).up, S p.1 := by
  intro p hp
  unfold callA at hp
  split at hp
  · exact callC_keys _ _ _ hx p hp
  · split at hp
    · split at hp
      · rename_i o lo n hw
        split at hp
        · rename_i ps e
          unfold callW at hp
          split at hp
          · rcases List.mem_append.1 hp with hp | hp
            · exact asDatas_in _ ps hx.cons.2 e _ (freezes_keys _ p hp)
            · simp only [List.mem_singleton] at hp
              subst hp
              exact hx.cons.1 _ (winOf_in hw)
          · cases hp
        · cases hp
      · exact callC_keys _ _ _ hx p hp
    · cases hp
    · exact callC_keys _ _ _ hx p hp
  · split at hp
    · unfold callO at hp
      split at hp
      · rename_i s ps e2
        rcases List.mem_append.1 hp with hp | hp
        · exact asDatas_in _ ps hx e2 _ (freezes_keys _ p hp)
        · simp only [List.mem_singleton] at hp
          subst hp
          exact hd _ rfl
      · cases hp
    · cases hp
  · split at hp
    · unfold callB at hp
      split at hp
      · rename_i s ps e2
        rcases List.mem_append.1 hp with hp | hp
        · exact asDatas_in _ ps hx e2 _ (freezes_keys _ p hp)
        · simp only [List.mem_singleton] at hp
          subst hp
          exact hd _ rfl
      · cases hp
    · cases hp
  · split at hp
    · unfold callMp at hp
      split at hp
      · rename_i x s r
        split at hp
        · simp only [List.mem_singleton] at hp
          subst hp
          exact hx.cons.1 _ (by simp [X.refs])
        · cases hp
      · cases hp
    · cases hp
  · split at hp
    · cases hp
    · split at hp
      · rename_i ps ds e1 e2
        rcases List.mem_append.1 hp with hp | hp
        · exact asArs_in _ _ ps hx e1 _ (freezes_keys _ p hp)
        · obtain ⟨x, hx', hs'⟩ := refIds_refs xs _ _ (setBoxes_keys _ _ p hp)
          exact hx x hx' _ hs'
      · cases hp
  · cases hp
theorem callF_keys {S : Nat → Prop} (b : Bool) (f : FuncId) (cs : List D) (xs : List X) (hx : In S xs) : ∀ p ∈ (callF b tb st f cs xs).up, S p.1 := by
  intro p hp
  unfold callF at hp
  split at hp
  · exact callC_keys _ _ _ hx p hp
  · cases hp
theorem makeA_keys {S : Nat → Prop} (fn : Fn) (fs : List Operand) (xs : List X) (hx : In S xs) : ∀ p ∈ (makeA st fn fs xs).up, S p.1 := by
  intro p hp
  unfold makeA at hp
  split at hp
  · rename_i f ps e0 e1
    exact asDatas_in _ ps hx e1 _ (freezes_keys _ p hp)
  · cases hp
theorem buildO_keys {S : Nat → Prop} (u : Option TypeDesc) (n : Nat) (ks : List Nat) (xs : List X) (hx : In S xs) : ∀ p ∈ (buildO P st u n ks xs).up, S p.1 := by
  intro p hp
  unfold buildO at hp
  split at hp
  · rename_i e ps k ks e1
    exact asDatas_in _ _ hx e1 _ (freezes_keys _ p hp)
  · cases hp
theorem callF_congr {S : Nat → Prop} {st' : St} (h : ∀ s, S s → st'.obj s = st.obj s) (b : Bool) (f : FuncId) (cs : List D) (xs : List X) (hx : In S xs) : callF b tb st' f cs xs = callF b tb st f cs xs := by
  unfold callF
  cases tb f with
  | none => rfl
  | some c =>
    cases c with
    | data g => exact callC_congr h _ _ _ hx
    | _ => rfl
theorem makeA_congr {S : Nat → Prop} {st' : St} (h : ∀ s, S s → st'.obj s = st.obj s) (fn : Fn) (fs : List Operand) (xs : List X) (hx : In S xs) : makeA st' fn fs xs = makeA st fn fs xs := by
  unfold makeA
  rw [asDatas_congr h xs hx]
  cases fnIs fn with
  | none => rfl
  | some f =>
    cases fs with
    | cons _ _ => rfl
    | nil =>
      cases hp : asDatas st xs with
      | none => rfl
      | some ps =>
        have hos := asDatas_in _ ps hx hp
        simp only [freezes_congr h _ hos, allFreeze_congr h _ hos]
theorem buildO_congr {S : Nat → Prop} {st' : St} (h : ∀ s, S s → st'.obj s = st.obj s) (u : Option TypeDesc) (n : Nat) (ks : List Nat) (xs : List X) (hx : In S xs) : buildO P st' u n ks xs = buildO P st u n ks xs := by
  unfold buildO
  rw [asDatas_congr h xs hx]
  cases u with
  | none => rfl
  | some u =>
    cases u <;> try rfl
    cases hp : asDatas st xs with
    | none => rfl
    | some ps =>
      have hos := asDatas_in _ ps hx hp
      cases ks with
      | nil => rfl
      | cons k ks => simp only [freezes_congr h _ hos, allFreeze_congr h _ hos]
theorem aop_keys : ∀ p ∈ (aop P mf tb st o).up, Tch st o p.1 := by
  intro p hp
  cases hk : kdOf mf o.op with
  | pure => rw [aop_up (.inl hk)] at hp; cases hp
  | load => rw [aop_up (.inr hk)] at hp; cases hp
  | alloc =>
    rcases aop_alloc (P := P) (tb := tb) (st := st) hk with e | ⟨s, ob, hd, e⟩
    · rw [e] at hp; cases hp
    · rw [e] at hp
      simp only [List.mem_singleton] at hp
      subst hp
      exact .inr ⟨alloc_mk hk, hd⟩
  | store | late =>
    cases hop : o.op with
    | store ty x y =>
      simp only [aop, hop] at hp
      cases hb : lateBad mf x (ev st x) with
      | true => rw [hb] at hp; cases hp
      | false =>
        rw [hb] at hp
        simp only [barIf] at hp
        have fin : ∀ ob, ob ∈ (ev st x).refs → Tch st o ob := fun ob h => .inl ⟨x, by simp [hop, Op.operands], h⟩
        split at hp
        · rename_i e1 _
          rw [e1] at fin
          split at hp
          · split at hp
            · simp only [List.mem_singleton] at hp; subst hp; exact fin _ (by simp [X.refs])
            · cases hp
          · cases hp
        · rename_i e1 _
          rw [e1] at fin
          split at hp
          · split at hp
            · split at hp
              · simp only [List.mem_singleton] at hp; subst hp; exact fin _ (by simp [X.refs])
              · cases hp
            · cases hp
          · split at hp
            · split at hp
              · simp only [List.mem_singleton] at hp; subst hp; exact fin _ (by simp [X.refs])
              · cases hp
            · cases hp
          · cases hp
        · cases hp
    | build t parts =>
      simp only [aop, hop] at hp
      have hin : In (Tch st o) (parts.toList.map fun p => ev st p.2) := fun x hx s hxs => by
        obtain ⟨p, hp, rfl⟩ := List.mem_map.1 hx
        refine .inl ⟨p.2, ?_, hxs⟩
        rw [hop]
        simp only [Op.operands]
        simp only [List.mem_toArray, List.mem_map]
        exact ⟨p, hp, rfl⟩
      split at hp
      · split at hp <;> cases hp
      · split at hp
        · rename_i ps e
          exact asDatas_in _ ps hin e _ (freezes_keys _ p hp)
        · cases hp
    | makeFunc fn first captured =>
      simp only [aop, hop] at hp
      refine makeA_keys _ _ _ (fun x hx s hxs => ?_) p hp
      obtain ⟨y, hy, rfl⟩ := List.mem_map.1 hx
      refine .inl ⟨y, ?_, hxs⟩
      rw [hop]
      simp only [Op.operands]
      exact Array.mem_append.2 (.inr (Array.mem_toList_iff.1 hy))
    | buildSlice t n parts =>
      have hm : (mf (bld t) && n != 0) = true := by
        cases h : (mf (bld t) && n != 0)
        · rw [hop] at hk; simp only [kdOf, h] at hk; cases hk
        · rfl
      simp only [aop, hop] at hp
      rw [hm] at hp
      refine buildO_keys _ _ _ _ (fun x hx s hxs => ?_) p hp
      obtain ⟨q, hq, rfl⟩ := List.mem_map.1 hx
      refine .inl ⟨q.2, ?_, hxs⟩
      rw [hop]
      simp only [Op.operands]
      simp only [List.mem_toArray, List.mem_map]
      exact ⟨q, hq, rfl⟩
    | call c =>
      obtain ⟨callee, args, ts⟩ := c
      have hin : In (Tch st o) (args.toList.map (ev st)) := fun x hx s hxs => by
        obtain ⟨y, hy, rfl⟩ := List.mem_map.1 hx
        refine .inl ⟨y, ?_, hxs⟩
        rw [hop]
        simp only [Op.operands, Call.operands]
        exact Array.mem_append.2 (.inr (Array.mem_toList_iff.1 hy))
      cases callee with
      | value f =>
        cases f with
        | func f =>
          simp only [aop, hop] at hp
          exact callA_keys _ (fun s hd => .inr ⟨by rw [hop]; rfl, hd⟩) f _ hin p hp
        | tmp t =>
          simp only [aop, hop] at hp
          split at hp
          · exact callF_keys _ _ _ _ hin p hp
          split at hp
          · unfold callP at hp
            cases hfp : mf fnp with
            | true =>
              rw [hfp] at hp
              exact callF_keys _ _ _ _ hin p hp
            | false =>
              rw [hfp] at hp
              exact callA_keys _ (fun s hd => .inr ⟨by rw [hop]; rfl, hd⟩) _ _ hin p hp
          · cases hp
        | _ => rw [hop] at hk; simp [kdOf] at hk
      | invoke r m => rw [hop] at hk; simp [kdOf] at hk
      | builtin b =>
        cases b <;> try (rw [hop] at hk; simp [kdOf] at hk; done)
        simp only [aop, hop] at hp
        split at hp
        · rename_i t t' s x e1 e2
          split at hp
          · cases hb : appBad mf s (ev st s) with
            | true => rw [hb] at hp; cases hp
            | false =>
              rw [hb] at hp
              simp only [barIf] at hp
              rcases appendA_up _ _ _ _ p hp with h | h
              · rw [e2] at hin
                exact hin (ev st s) (by simp) _ h
              · exact .inr ⟨by rw [hop]; rfl, h⟩
          · cases hp
        · cases hp
    | insert t m k v =>
      simp only [aop, hop] at hp
      unfold insA at hp
      split at hp
      · rename_i ob q n d em ek evv
        split at hp
        · simp only [List.mem_singleton] at hp
          subst hp
          exact .inl ⟨m, by rw [hop]; simp [Op.operands], by rw [em]; simp [X.refs]⟩
        · cases hp
      · cases hp
    | range t x =>
      simp only [aop, hop] at hp
      split at hp
      · rename_i d e
        unfold rangeA at hp
        split at hp
        · rename_i ob ex
          split at hp
          · simp only [List.mem_cons, List.not_mem_nil, or_false] at hp
            rcases hp with rfl | rfl
            · exact .inl ⟨x, by rw [hop]; simp [Op.operands], by rw [ex]; simp [X.refs]⟩
            · exact .inr ⟨by rw [hop]; rfl, e⟩
          · cases hp
        · rename_i str ex
          simp only [List.mem_singleton] at hp
          subst hp
          exact .inr ⟨by rw [hop]; rfl, e⟩
        · cases hp
      · cases hp
    | entry x =>
      simp only [aop, hop] at hp
      unfold entryA at hp
      (repeat' split at hp) <;> cases hp
    | next x b =>
      cases b with
      | false => simp only [aop, hop] at hp; cases hp
      | true =>
        simp only [aop, hop] at hp
        unfold nextA at hp
        split at hp
        · rename_i ob ex
          split at hp
          · split at hp
            · simp only [List.mem_singleton] at hp
              subst hp
              exact .inl ⟨x, by rw [hop]; simp [Op.operands], by rw [ex]; simp [X.refs]⟩
            · cases hp
          · cases hp
        · cases hp
    | convert s d x => rw [hop] at hk; simp only [kdOf] at hk; split at hk <;> cases hk
    | _ => rw [hop] at hk; simp [kdOf] at hk
theorem fl_no {x : X} (h : fl mf x = false) {s : Nat} (hs : s ∈ x.refs) : mf (cel s) = false := by
  unfold fl at h
  rw [List.any_eq_false] at h
  cases hm : mf (cel s) with
  | false => rfl
  | true => exact absurd hm (h s hs)
theorem aop_congr (h : ∀ x ∈ o.op.operands, ev st' x = ev st x)
    (hl : kdOf mf o.op = .load → ∀ x ∈ o.op.operands, ∀ s ∈ (ev st x).refs, mf (cel s) = false → st'.obj s = st.obj s)
    (ha : kdOf mf o.op = .alloc → ∀ s, o.dst = some s → st'.obj s = st.obj s ∧ st'.ob.length = st.ob.length)
    (hs : kdOf mf o.op = .store ∨ kdOf mf o.op = .late → (∀ s, Tch st o s → st'.obj s = st.obj s) ∧ st'.ob.length = st.ob.length) : aop P mf tb st' o = aop P mf tb st o := by
  cases hop : o.op with
  | move x => simp only [aop, hop]; rw [h x (by simp [hop, Op.operands])]
  | assign x => simp only [aop, hop]; rw [h x (by simp [hop, Op.operands])]
  | pick c x y => simp only [aop, hop]; rw [h c (by simp [hop, Op.operands]), h x (by simp [hop, Op.operands]), h y (by simp [hop, Op.operands])]
  | binOp op t x y t' => simp only [aop, hop]; rw [h x (by simp [hop, Op.operands]), h y (by simp [hop, Op.operands])]
  | unOp op t x => simp only [aop, hop]; rw [h x (by simp [hop, Op.operands])]
  | convert s d x =>
    simp only [aop, hop]
    rw [h x (by simp [hop, Op.operands])]
    cases hm : mf strc with
    | false => rfl
    | true =>
      have hl' := hl (by rw [hop]; simp [kdOf, hm]) x (by simp [hop, Op.operands])
      simp only []
      cases hfl : fl mf (ev st x) with
      | true => rfl
      | false =>
        simp only [barIf]
        unfold strA
        rw [elems_congr (S := fun s => s ∈ (ev st x).refs) (fun s hs => hl' s hs (fl_no hfl hs)) (ev st x) (fun s hs => hs)]
  | nilCheck x => simp only [aop, hop]; rw [h x (by simp [hop, Op.operands])]
  | box t x =>
    simp only [aop, hop]; rw [h x (by simp [hop, Op.operands])]
    cases hd : o.dst with
    | none => cases ev st x <;> rfl
    | some s =>
      obtain ⟨e1, e2⟩ := ha (by rw [hop]; rfl) s hd
      cases ev st x <;> first | rfl | simp only [e1, e2]
  | alloc t =>
    simp only [aop, hop]
    cases hd : o.dst with
    | none => cases (P.info? t).bind (·.zero) <;> rfl
    | some s =>
      obtain ⟨e1, e2⟩ := ha (by rw [hop]; rfl) s hd
      cases (P.info? t).bind (·.zero) with
      | none => rfl
      | some v => simp only [e1, e2]
  | insert t m k v =>
    obtain ⟨h1, _⟩ := hs (.inl (by rw [hop]; rfl))
    simp only [aop, hop]
    rw [h m (by rw [hop]; simp [Op.operands]), h k (by rw [hop]; simp [Op.operands]), h v (by rw [hop]; simp [Op.operands])]
    unfold insA
    split
    · rename_i ob q n d em ek evv
      have hs : st'.obj ob = st.obj ob := h1 ob (.inl ⟨m, by rw [hop]; simp [Op.operands], by rw [em]; simp [X.refs]⟩)
      have e : st'.mp? ob = st.mp? ob := by unfold St.mp?; rw [hs]
      rw [e]
    · rfl
  | range t x =>
    obtain ⟨h1, h2⟩ := hs (.inl (by rw [hop]; rfl))
    simp only [aop, hop]
    rw [h x (by rw [hop]; simp [Op.operands])]
    cases hd : o.dst with
    | none => rfl
    | some d =>
      have hsd : st'.obj d = st.obj d := h1 d (.inr ⟨by rw [hop]; rfl, hd⟩)
      simp only []
      unfold rangeA
      split
      · rename_i ob ex
        have hs : st'.obj ob = st.obj ob := h1 ob (.inl ⟨x, by rw [hop]; simp [Op.operands], by rw [ex]; simp [X.refs]⟩)
        have e : st'.mp? ob = st.mp? ob := by unfold St.mp?; rw [hs]
        rw [e, hsd, h2]
      · rw [hsd, h2]
      · rfl
  | entry x =>
    obtain ⟨h1, _⟩ := hs (.inl (by rw [hop]; rfl))
    simp only [aop, hop]
    rw [h x (by rw [hop]; simp [Op.operands])]
    unfold entryA
    split
    · rename_i ob ex
      have hs : st'.obj ob = st.obj ob := h1 ob (.inl ⟨x, by rw [hop]; simp [Op.operands], by rw [ex]; simp [X.refs]⟩)
      have e : st'.mp? ob = st.mp? ob := by unfold St.mp?; rw [hs]
      rw [e]
    · rfl
  | next x b =>
    cases b with
    | false => simp only [aop, hop]
    | true =>
      obtain ⟨h1, _⟩ := hs (.inl (by rw [hop]; rfl))
      simp only [aop, hop]
      rw [h x (by rw [hop]; simp [Op.operands])]
      unfold nextA
      split
      · rename_i ob ex
        have hs : st'.obj ob = st.obj ob := h1 ob (.inl ⟨x, by rw [hop]; simp [Op.operands], by rw [ex]; simp [X.refs]⟩)
        have e : st'.mp? ob = st.mp? ob := by unfold St.mp?; rw [hs]
        rw [e]
      · rfl
  | makeMap t r =>
    cases r with
    | some x => simp only [aop, hop]
    | none =>
      simp only [aop, hop]
      cases hd : o.dst with
      | none => rfl
      | some s =>
        obtain ⟨e1, e2⟩ := ha (by rw [hop]; rfl) s hd
        simp only [e1, e2]
  | makeSlice t x y =>
    simp only [aop, hop]; rw [h x (by simp [hop, Op.operands]), h y (by simp [hop, Op.operands])]
    cases hd : o.dst with
    | none => rfl
    | some s =>
      obtain ⟨e1, e2⟩ := ha (by rw [hop]; rfl) s hd
      simp only [e1, e2]
  | buildSlice t n parts =>
    simp only [aop, hop]
    have : (parts.toList.map fun p => ev st' p.2) = parts.toList.map fun p => ev st p.2 := by
      apply List.map_congr_left
      intro p hp
      refine h p.2 ?_
      rw [hop]
      simp only [Op.operands]
      simp only [List.mem_toArray, List.mem_map]
      exact ⟨p, hp, rfl⟩
    rw [this]
    cases hm : (mf (bld t) && n != 0) with
    | true =>
      have e := (hs (.inl (by rw [hop]; simp only [kdOf, hm]; rfl))).1
      refine buildO_congr e _ _ _ _ (fun x hx s hxs => ?_)
      obtain ⟨q, hq, rfl⟩ := List.mem_map.1 hx
      refine .inl ⟨q.2, ?_, hxs⟩
      rw [hop]
      simp only [Op.operands]
      simp only [List.mem_toArray, List.mem_map]
      exact ⟨q, hq, rfl⟩
    | false =>
    simp only []
    cases hd : o.dst with
    | none => rfl
    | some s =>
      obtain ⟨e1, e2⟩ := ha (by rw [hop]; simp only [kdOf, hm]; rfl) s hd
      simp only [e1, e2]
  | makeFunc fn first captured =>
    have e := (hs (.inl (by rw [hop]; rfl))).1
    have hm : ∀ y ∈ captured.toList, y ∈ o.op.operands := fun y hy => by
      rw [hop]
      simp only [Op.operands]
      exact Array.mem_append.2 (.inr (Array.mem_toList_iff.1 hy))
    have ea : captured.toList.map (ev st') = captured.toList.map (ev st) := List.map_congr_left (fun y hy => h y (hm y hy))
    simp only [aop, hop, ea]
    refine makeA_congr e _ _ _ (fun x hx s hxs => ?_)
    obtain ⟨y, hy, rfl⟩ := List.mem_map.1 hx
    exact .inl ⟨y, hm y hy, hxs⟩
  | fieldAddr s x i => simp only [aop, hop]; rw [h x (by simp [hop, Op.operands])]
  | load t x =>
    have hl' := hl (by rw [hop]; rfl) x (by simp [hop, Op.operands])
    simp only [aop, hop]; rw [h x (by simp [hop, Op.operands])]
    cases hfl : fl mf (ev st x) with
    | true => rfl
    | false =>
    simp only [barIf]
    cases hx : ev st x with
    | obj ob p off =>
      rw [hx] at hl' hfl
      simp only [box_congr (hl' ob (by simp [X.refs]) (fl_no hfl (by simp [X.refs])))]
    | elt ob j p off =>
      rw [hx] at hl' hfl
      simp only [row_congr (hl' ob (by simp [X.refs]) (fl_no hfl (by simp [X.refs])))]
    | dat d =>
      cases d with
      | ptr d => cases d <;> rfl
      | _ => rfl
    | _ => rfl
  | store t x y =>
    obtain ⟨e, _⟩ := hs (by rw [hop]; simp only [kdOf]; split <;> simp)
    have e : ∀ s ∈ (ev st x).refs, st'.obj s = st.obj s := fun s h => e s (.inl ⟨x, by simp [hop, Op.operands], h⟩)
    simp only [aop, hop]; rw [h x (by simp [hop, Op.operands]), h y (by simp [hop, Op.operands])]
    congr 1
    cases hx : ev st x <;> try rfl
    · rename_i ob p off
      rw [hx] at e
      have e := e ob (by simp [X.refs])
      cases hy : ev st y <;> try rfl
      simp only [wbox_congr e, e]
    · rename_i ob j p off
      rw [hx] at e
      have e := e ob (by simp [X.refs])
      cases hy : ev st y <;> try rfl
      simp only [e]
  | build t parts =>
    simp only [aop, hop]
    have : (parts.toList.map fun p => ev st' p.2) = parts.toList.map fun p => ev st p.2 := by
      apply List.map_congr_left
      intro p hp
      refine h p.2 ?_
      rw [hop]
      simp only [Op.operands]
      simp only [List.mem_toArray, List.mem_map]
      exact ⟨p, hp, rfl⟩
    rw [this]
    cases hm : mf (bld t) with
    | false => rfl
    | true =>
      have e := (hs (.inl (by rw [hop]; simp [kdOf, hm]))).1
      have hin : In (Tch st o) (parts.toList.map fun p => ev st p.2) := fun x hx s hxs => by
        obtain ⟨p, hp, rfl⟩ := List.mem_map.1 hx
        refine .inl ⟨p.2, ?_, hxs⟩
        rw [hop]
        simp only [Op.operands]
        simp only [List.mem_toArray, List.mem_map]
        exact ⟨p, hp, rfl⟩
      simp only [asDatas_congr e _ hin]
      cases hp : asDatas st (parts.toList.map fun p => ev st p.2) with
      | none => rfl
      | some ps =>
        have hos := asDatas_in _ ps hin hp
        simp only [freezes_congr e _ hos, allFreeze_congr e _ hos]
  | extract x i => simp only [aop, hop]; rw [h x (by simp [hop, Op.operands])]
  | indexAddr t x y =>
    have hl' := hl (by rw [hop]; rfl) x (by simp [hop, Op.operands])
    simp only [aop, hop]; rw [h x (by simp [hop, Op.operands]), h y (by simp [hop, Op.operands])]
    cases hfl : fl mf (ev st x) with
    | true => rfl
    | false =>
    simp only [barIf]
    cases hx : ev st x with
    | row ob =>
      rw [hx] at hl' hfl
      simp only [row_congr (hl' ob (by simp [X.refs]) (fl_no hfl (by simp [X.refs])))]
    | win ob lo n =>
      rw [hx] at hl' hfl
      simp only [row_congr (hl' ob (by simp [X.refs]) (fl_no hfl (by simp [X.refs])))]
    | dat d => cases d <;> rfl
    | _ => rfl
  | slice t x lo hi mx =>
    cases mx with
    | some m => simp only [aop, hop]
    | none =>
      have hl' := hl (by rw [hop]; rfl) x (by simp [hop, Op.operands])
      have e1 : lo.map (ev st') = lo.map (ev st) := by
        cases lo with
        | none => rfl
        | some y => simp only [Option.map_some]; rw [h y (by simp [hop, Op.operands])]
      have e2 : hi.map (ev st') = hi.map (ev st) := by
        cases hi with
        | none => rfl
        | some y => simp only [Option.map_some]; rw [h y (by simp [hop, Op.operands])]
      simp only [aop, hop]
      rw [e1, e2, h x (by simp [hop, Op.operands])]
      cases hfl : fl mf (ev st x) with
      | true => rfl
      | false => rw [sliceA_congr (fun s hs => row_congr (hl' s hs (fl_no hfl hs)))]
  | call c =>
    obtain ⟨callee, args, ts⟩ := c
    have ho : ∀ x ∈ args.toList, ev st' x = ev st x := by
      intro x hx
      refine h x ?_
      rw [hop]
      simp only [Op.operands, Call.operands]
      exact Array.mem_append.2 (.inr (Array.mem_toList_iff.1 hx))
    have ea : args.toList.map (ev st') = args.toList.map (ev st) := List.map_congr_left ho
    cases callee with
    | value f =>
      cases f with
      | func f =>
        simp only [aop, hop, ea]
        cases hm : mf f with
        | true =>
          obtain ⟨e1, e2⟩ := hs (.inl (by rw [hop]; simp [kdOf, hm]))
          refine callA_congr e1 e2 o.dst (fun s hd => .inr ⟨by rw [hop]; rfl, hd⟩) f _ (fun x hx s hxs => ?_)
          obtain ⟨y, hy, rfl⟩ := List.mem_map.1 hx
          refine .inl ⟨y, ?_, hxs⟩
          rw [hop]
          simp only [Op.operands, Call.operands]
          exact Array.mem_append.2 (.inr (Array.mem_toList_iff.1 hy))
        | false =>
          unfold callA callC
          simp only [hm]
      | tmp t =>
        have et : ev st' (.tmp t) = ev st (.tmp t) := by
          refine h _ ?_
          rw [hop]
          simp only [Op.operands, Call.operands]
          exact Array.mem_append.2 (.inl (by simp))
        simp only [aop, hop, ea]
        rw [et]
        cases hcl : cloOf (ev st (.tmp t)) with
        | some q =>
          obtain ⟨f, cs⟩ := q
          cases hfp : mf fnp with
          | true =>
            simp only [callF, callC, Bool.not_true]
          | false =>
          obtain ⟨e1, e2⟩ := hs (.inl (by rw [hop]; simp [kdOf, hfp]))
          refine callF_congr e1 _ f cs _ (fun x hx s hxs => ?_)
          obtain ⟨y, hy, rfl⟩ := List.mem_map.1 hx
          refine .inl ⟨y, ?_, hxs⟩
          rw [hop]
          simp only [Op.operands, Call.operands]
          exact Array.mem_append.2 (.inr (Array.mem_toList_iff.1 hy))
        | none =>
        simp only []
        cases hfo : fnOf (ev st (.tmp t)) with
        | none => rfl
        | some f =>
          unfold callP
          cases hfp : mf fnp with
          | true =>
            simp only [callF, callC]
          | false =>
          simp only []
          obtain ⟨e1, e2⟩ := hs (.inl (by rw [hop]; simp [kdOf, hfp]))
          refine callA_congr e1 e2 o.dst (fun s hd => .inr ⟨by rw [hop]; rfl, hd⟩) f _ (fun x hx s hxs => ?_)
          obtain ⟨y, hy, rfl⟩ := List.mem_map.1 hx
          refine .inl ⟨y, ?_, hxs⟩
          rw [hop]
          simp only [Op.operands, Call.operands]
          exact Array.mem_append.2 (.inr (Array.mem_toList_iff.1 hy))
      | _ => simp only [aop, hop]
    | invoke r m => simp only [aop, hop]
    | builtin b =>
      cases b <;> try (simp only [aop, hop]; done)
      case append =>
        obtain ⟨e1, e2⟩ := hs (by rw [hop]; exact kd_app)
        simp only [aop, hop]
        split
        · rename_i t t' s x g1 g2
          rw [g2] at ho
          have hm : ∀ y ∈ args.toList, ∀ q ∈ (ev st y).refs, Tch st o q := fun y hy q hq => .inl ⟨y, by
            rw [hop]
            simp only [Op.operands, Call.operands]
            exact Array.mem_append.2 (.inr (Array.mem_toList_iff.1 hy)), hq⟩
          rw [g2] at hm
          rw [ho s (by simp), ho x (by simp), appendA_congr e1 e2 _ (fun q hd => .inr ⟨by rw [hop]; rfl, hd⟩) _ _ _ (hm s (by simp)) (hm x (by simp))]
        · rfl
      case max =>
        simp only [aop, hop]
        split
        · rename_i x y g2
          rw [g2] at ho
          rw [ho x (by simp), ho y (by simp)]
        · rfl
      case min =>
        simp only [aop, hop]
        split
        · rename_i x y g2
          rw [g2] at ho
          rw [ho x (by simp), ho y (by simp)]
        · rfl
      case len =>
        have hl' := hl (by rw [hop]; rfl)
        simp only [aop, hop]
        split
        · rename_i e x g1 g2
          have hx : x ∈ args.toList := by rw [g2]; simp
          have hl2 := hl' x (by
            rw [hop]
            simp only [Op.operands, Call.operands]
            exact Array.mem_append.2 (.inr (Array.mem_toList_iff.1 hx)))
          rw [ho x hx]
          cases hfl : fl mf (ev st x) with
          | true => rfl
          | false => rw [lenA_congr (fun s hs => row_congr (hl2 s hs (fl_no hfl hs)))]
        · rename_i x g1 g2
          have hx : x ∈ args.toList := by rw [g2]; simp
          rw [ho x hx]
        · rfl
  | index t x y => simp only [aop, hop]; rw [h x (by rw [hop]; simp [Op.operands]), h y (by rw [hop]; simp [Op.operands])]
  | _ => simp only [aop, hop]
end
end Go.Proofs.Ytpggfnggffedlaa.Ae

namespace Go.Proofs.Ytpggfnggffedlaa.Ae
open Go Go.RowKit
section
variable {P : Program} {mf : FuncId → Bool} {tb : FuncId → Option Ct} {N : NR} {F0 : Nat → Prop} {M0 : Nat → Nat → Prop} {w0 : World} {hv : Nat → Value} {st : St} {a : Act} {w : World} {o : Oper} {ops : Array Oper} {Q : Exit → Act → World → Prop}
theorem put_comm {d1 d2 : Option Nat} (x y : X) (h : ∀ d, d1 = some d → d2 ≠ some d) : (st.put d1 x).put d2 y = (st.put d2 y).put d1 x := by
  cases d1 with
  | none => rfl
  | some t =>
    cases d2 with
    | none => rfl
    | some t' =>
      have hne : t ≠ t' := fun e => h t rfl (by rw [e])
      simp only [St.put]
      rw [List.set_comm _ _ hne]
structure Eff where
  dst : Option Nat
  x : X
  up : List (Nat × Option Ob)
def Eff.on (e : Eff) (st : St) : St := st.apply e.dst ⟨True, e.x, e.up⟩
theorem on_tm (e : Eff) (st : St) : (e.on st).tm = (st.put e.dst e.x).tm := rfl
theorem on_ob (e : Eff) (st : St) : (e.on st).ob = St.ups st.ob e.up := rfl
theorem put_tm {A B : St} (h : A.tm = B.tm) (d : Option Nat) (x : X) : (A.put d x).tm = (B.put d x).tm := by cases d <;> simp [St.put, h]
theorem st_ext {A B : St} (h : A.tm = B.tm) (h2 : A.ob = B.ob) : A = B := by cases A; cases B; simp_all
theorem ups_set : ∀ (l : List (Nat × Option Ob)) (ob : List (Option Ob)) (s : Nat) (c : Option Ob), (∀ p ∈ l, p.1 ≠ s) → St.ups (ob.set s c) l = (St.ups ob l).set s c
  | [], _, _, _, _ => rfl
  | p :: l, ob, s, c, h => by
    show St.ups ((ob.set s c).set p.1 p.2) l = (St.ups (ob.set p.1 p.2) l).set s c
    rw [List.set_comm _ _ (fun e => h p (by simp) e.symm), ups_set l _ s c (fun q hq => h q (by simp [hq]))]
theorem eff_comm {e1 e2 : Eff} (h : ∀ d, e1.dst = some d → e2.dst ≠ some d) (hu : e1.up = [] ∨ e2.up = [] ∨ (∃ s c, e1.up = [(s, c)] ∧ ∀ p ∈ e2.up, p.1 ≠ s) ∨ ∃ s c, e2.up = [(s, c)] ∧ ∀ p ∈ e1.up, p.1 ≠ s) : e2.on (e1.on st) = e1.on (e2.on st) := by
  have hc := put_comm (st := st) e1.x e2.x h
  refine st_ext ?_ ?_
  · rw [on_tm, on_tm, put_tm (on_tm e1 st), put_tm (on_tm e2 st), hc]
  · rw [on_ob, on_ob, on_ob, on_ob]
    rcases hu with hu | hu | ⟨s, c, h1, h2⟩ | ⟨s, c, h1, h2⟩
    · rw [hu]; rfl
    · rw [hu]; rfl
    · rw [h1]
      show St.ups (st.ob.set s c) e2.up = (St.ups st.ob e2.up).set s c
      exact ups_set _ _ _ _ h2
    · rw [h1]
      show (St.ups st.ob e1.up).set s c = St.ups (st.ob.set s c) e1.up
      exact (ups_set _ _ _ _ h2).symm
def effOf (P : Program) (mf : FuncId → Bool) (tb : FuncId → Option Ct) (ops : Array Oper) (st : St) (o : Oper) : Eff := match dec ops st o with
  | some true => ⟨o.dst, (aop P mf tb st o).x, (aop P mf tb st o).up⟩
  | _ => ⟨o.dst, .und, []⟩
theorem effOf_dst : (effOf P mf tb ops st o).dst = o.dst := by unfold effOf; split <;> rfl
theorem put_apply (dst : Option Nat) (x : X) : st.put dst x = st.apply dst ⟨True, x, []⟩ := by
  cases dst <;> rfl
theorem step1_eff (h : (step1 P mf tb ops st o).1) : (step1 P mf tb ops st o).2 = (effOf P mf tb ops st o).on st := by
  unfold step1 at h ⊢
  unfold effOf
  split at h
  · rename_i e; simp only [e]; rfl
  · rename_i e; simp only [e]; exact put_apply ..
  · exact h.elim
theorem step1_fst : (step1 P mf tb ops st o).1 = (match dec ops st o with | some true => (aop P mf tb st o).pre | some false => True | none => False) := by
  unfold step1
  cases dec ops st o with
  | none => rfl
  | some b => cases b <;> rfl
theorem eff_up (hk : kdOf mf o.op = .pure ∨ kdOf mf o.op = .load) : (effOf P mf tb ops st o).up = [] := by
  unfold effOf
  split
  · exact aop_up hk
  · rfl
theorem eff_alloc (hk : kdOf mf o.op = .alloc) : (effOf P mf tb ops st o).up = [] ∨ ∃ s ob, o.dst = some s ∧ (effOf P mf tb ops st o).up = [(s, ob)] := by
  unfold effOf
  split
  · exact aop_alloc hk
  · exact .inl rfl
theorem eff_late (hk : kdOf mf o.op = .late) : ∀ p ∈ (effOf P mf tb ops st o).up, mf (cel p.1) = true ∨ (mkOp o.op = true ∧ o.dst = some p.1) := by
  unfold effOf
  split
  · exact aop_late hk
  · intro p hp; cases hp
theorem eff_keys : ∀ p ∈ (effOf P mf tb ops st o).up, Tch st o p.1 := by
  unfold effOf
  split
  · exact aop_keys
  · intro p hp; cases hp
theorem ups_out : ∀ (l : List (Nat × Option Ob)) (ob : List (Option Ob)) (s : Nat), (∀ p ∈ l, p.1 ≠ s) → (St.ups ob l).getD s none = ob.getD s none
  | [], _, _, _ => rfl
  | p :: l, ob, s, h => by
    show (St.ups (ob.set p.1 p.2) l).getD s none = _
    rw [ups_out l _ s (fun q hq => h q (by simp [hq])), getD_set, if_neg (fun hh => h p (by simp) hh.1.symm)]
theorem step1_after {o' : Oper} (hno : mkOp o.op = true → ∀ s, o.dst = some s → noref st s) (hno' : mkOp o'.op = true → ∀ s, o'.dst = some s → noref st s) (h : (step1 P mf tb ops st o).1) (hx : (∀ d, o.dst = some d → d ∉ o'.looksAt ops) ∧ (∀ d, o.dst = some d → o'.dst ≠ some d))
    (hk : kdOk (kdOf mf o.op) (kdOf mf o'.op) = true) :
    ((step1 P mf tb ops (step1 P mf tb ops st o).2 o').1 ↔ (step1 P mf tb ops st o').1) ∧ effOf P mf tb ops (step1 P mf tb ops st o).2 o' = effOf P mf tb ops st o' := by
  have hst := step1_eff h
  have hget : ∀ t, t ∈ o'.looksAt ops → (step1 P mf tb ops st o).2.get t = st.get t := by
    intro t ht
    rw [hst]
    unfold Eff.on
    rw [apply_get, put_get, effOf_dst, if_neg (fun hc => hx.1 t hc.1 ht)]
  have hdec : dec ops (step1 P mf tb ops st o).2 o' = dec ops st o' := by
    unfold dec
    rw [gd_congr hget]
  have hev : ∀ x ∈ o'.op.operands, ev (step1 P mf tb ops st o).2 x = ev st x := by
    intro x hxo
    rw [hst]
    unfold Eff.on
    refine ev_apply (fun d hd e => ?_)
    rw [effOf_dst] at hd
    subst e
    exact hx.1 d hd (by
      unfold Oper.looksAt
      refine List.mem_append.2 (.inl ?_)
      rw [List.mem_filterMap]
      exact ⟨.tmp d, by simpa using hxo, rfl⟩)
  have hlen : (step1 P mf tb ops st o).2.ob.length = st.ob.length := by
    rw [hst, on_ob, ups_len]
  have hobj0 : (effOf P mf tb ops st o).up = [] → ∀ s, (step1 P mf tb ops st o).2.obj s = st.obj s := by
    intro hu s
    unfold St.obj
    rw [hst, on_ob, hu]
    rfl
  have hobj1 : kdOf mf o.op = .alloc → ∀ s, o.dst ≠ some s → (step1 P mf tb ops st o).2.obj s = st.obj s := by
    intro hk' s hs
    rcases eff_alloc (P := P) (mf := mf) (tb := tb) (ops := ops) (st := st) hk' with hu | ⟨s', ob, hd, hu⟩
    · exact hobj0 hu s
    · unfold St.obj
      rw [hst, on_ob, hu]
      show (st.ob.set s' ob).getD s none = _
      rw [getD_set, if_neg]
      rintro ⟨e, _⟩
      exact hs (by rw [hd, e])
  have haop : aop P mf tb (step1 P mf tb ops st o).2 o' = aop P mf tb st o' := by
    refine aop_congr hev (fun hk' x hxo s hs hf => ?_) (fun hk' s hs => ⟨?_, hlen⟩) (fun hk' => ⟨fun s => ?_, hlen⟩)
    · cases hko : kdOf mf o.op with
      | pure => exact hobj0 (eff_up (.inl hko)) s
      | load => exact hobj0 (eff_up (.inr hko)) s
      | store => rw [hko, hk'] at hk; simp [kdOk] at hk
      | late =>
        unfold St.obj
        rw [hst, on_ob]
        refine ups_out _ _ _ (fun p hp e => ?_)
        rcases eff_late (P := P) (mf := mf) (tb := tb) (ops := ops) (st := st) hko p hp with hm | ⟨hm, hd⟩
        · rw [e, hf] at hm; cases hm
        · obtain ⟨t, rfl, ht⟩ := ev_refs hs
          exact hno hm s (by rw [hd, e]) t ht
      | alloc =>
        refine hobj1 hko s (fun hd => ?_)
        obtain ⟨t, rfl, ht⟩ := ev_refs hs
        exact hno (alloc_mk hko) s hd t ht
    · cases hko : kdOf mf o.op with
      | pure => exact hobj0 (eff_up (.inl hko)) s
      | load => exact hobj0 (eff_up (.inr hko)) s
      | alloc => exact hobj1 hko s (fun hd => hx.2 s hd hs)
      | store | late =>
        unfold St.obj
        rw [hst, on_ob]
        refine ups_out _ _ _ (fun p hp e => ?_)
        rcases eff_keys (P := P) (mf := mf) (tb := tb) (ops := ops) (st := st) p hp with ⟨x, hxo, hxs⟩ | ⟨hm, hd⟩
        · obtain ⟨t, rfl, ht⟩ := ev_refs hxs
          rw [e] at ht
          exact hno' (alloc_mk hk') s hs t ht
        · exact hx.2 s (by rw [hd, e]) hs
    · intro hT
      cases hko : kdOf mf o.op with
      | pure => exact hobj0 (eff_up (.inl hko)) s
      | load => exact hobj0 (eff_up (.inr hko)) s
      | store => rcases hk' with hk' | hk' <;> (rw [hko, hk'] at hk; simp [kdOk] at hk)
      | late => rcases hk' with hk' | hk' <;> (rw [hko, hk'] at hk; simp [kdOk] at hk)
      | alloc =>
        refine hobj1 hko s (fun hd => ?_)
        rcases hT with ⟨x, hxo, hxs⟩ | ⟨hm, hd'⟩
        · obtain ⟨t, rfl, ht⟩ := ev_refs hxs
          exact hno (alloc_mk hko) s hd t ht
        · exact hx.2 s hd hd'
  constructor
  · rw [step1_fst, step1_fst, hdec]
    cases hd : dec ops st o' with
    | none => exact Iff.rfl
    | some b =>
      cases b
      · exact Iff.rfl
      · simp only []
        rw [haop]
  · unfold effOf
    rw [hdec]
    cases hd : dec ops st o' with
    | none => rfl
    | some b =>
      cases b
      · rfl
      · simp only []
        rw [haop]
theorem swap {o' : Oper} (hn1 : mkOp o.op = true → ∀ s, o.dst = some s → noref st s) (hn2 : mkOp o'.op = true → ∀ s, o'.dst = some s → noref st s) (hf : free2 mf ops o o' = true) {K : St → Prop} (h : astep P mf tb ops o st fun s => astep P mf tb ops o' s K) : astep P mf tb ops o' st fun s => astep P mf tb ops o s K := by
  rw [astep_iff] at h ⊢
  obtain ⟨h1, h2⟩ := h
  rw [astep_iff] at h2 ⊢
  obtain ⟨h2, h3⟩ := h2
  unfold free2 at hf
  rw [Bool.and_eq_true] at hf
  obtain ⟨ha, hk⟩ := hf
  obtain ⟨a1, a2, a3⟩ := Oper.apart_spec ha
  have hk' : kdOk (kdOf mf o'.op) (kdOf mf o.op) = true := by
    cases h1 : kdOf mf o.op <;> cases h2 : kdOf mf o'.op <;> rw [h1, h2] at hk <;> simp_all [kdOk]
  obtain ⟨i1, e1⟩ := step1_after (o' := o') hn1 hn2 h1 ⟨a1, a2⟩ hk
  have g2 := i1.1 h2
  obtain ⟨i2, e2⟩ := step1_after (o := o') (o' := o) hn2 hn1 g2 ⟨a3, fun d hd e => a2 d e hd⟩ hk'
  have g1 := i2.2 h1
  refine ⟨g2, g1, ?_⟩
  have s1 := step1_eff h2
  have s2 := step1_eff g1
  rw [s2, e2, step1_eff g2]
  rw [s1, e1, step1_eff h1] at h3
  rw [← eff_comm]
  · exact h3
  · intro d hd
    rw [effOf_dst] at hd ⊢
    exact a2 d hd
  · have hal : ∀ {x y : Oper}, kdOf mf x.op = .alloc → (mkOp x.op = true → ∀ s, x.dst = some s → noref st s) → (∀ d, x.dst = some d → y.dst ≠ some d) → (effOf P mf tb ops st x).up = [] ∨ ∃ s c, (effOf P mf tb ops st x).up = [(s, c)] ∧ ∀ p ∈ (effOf P mf tb ops st y).up, p.1 ≠ s := by
      intro x y hk hn hd
      rcases eff_alloc (P := P) (mf := mf) (tb := tb) (ops := ops) (st := st) hk with u | ⟨s, c, d1, u⟩
      · exact .inl u
      · refine .inr ⟨s, c, u, fun p hp e => ?_⟩
        rcases eff_keys (P := P) (mf := mf) (tb := tb) (ops := ops) (st := st) p hp with ⟨z, hz, hzs⟩ | ⟨hm, hd'⟩
        · obtain ⟨t, rfl, ht⟩ := ev_refs hzs
          rw [e] at ht
          exact hn (alloc_mk hk) s d1 t ht
        · exact hd s d1 (by rw [hd', e])
    cases k1 : kdOf mf o.op with
    | pure => exact .inl (eff_up (.inl k1))
    | load => exact .inl (eff_up (.inr k1))
    | alloc =>
      rcases hal k1 hn1 a2 with u | u
      · exact .inl u
      · exact .inr (.inr (.inl u))
    | store | late =>
      cases k2 : kdOf mf o'.op with
      | pure => exact .inr (.inl (eff_up (.inl k2)))
      | load => exact .inr (.inl (eff_up (.inr k2)))
      | store => rw [k1, k2] at hk; simp [kdOk] at hk
      | late => rw [k1, k2] at hk; simp [kdOk] at hk
      | alloc =>
        rcases hal (y := o) k2 hn2 (fun d hd e => a2 d e hd) with u | u
        · exact .inr (.inl u)
        · exact .inr (.inr (.inr u))
theorem astep_sound (htb : TbOK N P tb) {K : St → Prop} (h : Rel N F0 M0 w0 hv st a w) (hno : mkOp o.op = true → ∀ s, o.dst = some s → noref st s) (hs : astep P mf tb ops o st K) {i : Nat} (hi : ops[i]? = some o) {next : Act → World → Prop}
    (hn : ∀ hv' a' w', K (step1 P mf tb ops st o).2 → Rel N F0 M0 w0 hv' (step1 P mf tb ops st o).2 a' w' → next a' w') : wpOp P ops Q i next a w := by
  rw [astep_iff] at hs
  obtain ⟨h1, h2⟩ := hs
  have hy : ∀ (g : Nat) (b : Bool), o.guard = some (g, b) → ∀ t, (ops[g]?).bind (·.dst) = some t → (∀ c, st.get t = .dat (.lit (.bool c)) → yielded ops a.tmps g = some c) ∧ (st.get t = .und → yielded ops a.tmps g = none) := by
    intro g b _ t ht
    have hx := h.tm t
    unfold yielded
    rw [ht]
    constructor
    · intro c e
      rw [e] at hx
      obtain ⟨hvl, _⟩ := RepV.lit hx
      have hl : t < a.tmps.size := by
        rcases Nat.lt_or_ge t a.tmps.size with h' | h'
        · exact h'
        · simp [Array.getD_eq_getD_getElem?, Array.getElem?_eq_none h', undef] at hvl
      simp only [Array.getD_eq_getD_getElem?, Array.getElem?_eq_getElem hl, Option.getD_some] at hvl
      simp [Array.getElem?_eq_getElem hl, hvl]
    · intro e
      rw [e] at hx
      have hx : a.tmps.getD t undef = undef := hx
      cases hg : a.tmps[t]? with
      | none => simp [hg]
      | some v =>
        simp only [Array.getD_eq_getD_getElem?, hg, Option.getD_some] at hx
        subst hx
        simp [hg, undef]
  have hw : ∀ b, dec ops st o = some b → Region.wanted o (yielded ops a.tmps) = b := by
    intro b hb
    unfold Region.wanted
    unfold dec gd at hb
    cases hg : o.guard with
    | none => rw [hg] at hb; simp only [Option.some.injEq] at hb; rw [← hb]
    | some gb =>
      obtain ⟨g, b'⟩ := gb
      rw [hg] at hb
      simp only [] at hb ⊢
      cases ht : (ops[g]?).bind (·.dst) with
      | none => rw [ht] at hb; simp at hb
      | some t =>
        rw [ht] at hb
        simp only [] at hb
        obtain ⟨y1, y2⟩ := hy g b' hg t ht
        split at hb
        · rename_i e
          split at e <;> cases e
        · rename_i e
          split at e
          · cases e
          · rename_i e2; rw [y2 e2]; simpa using hb
          · cases e
        · rename_i t' c b2 e
          split at e
          · rename_i c2 e2
            injection e with e3 e4 e5
            subst e3 e4 e5
            rw [y1 _ e2]
            simp only [Option.some.injEq] at hb
            rw [← hb]
            cases c2 <;> cases b' <;> rfl
          · cases e
          · cases e
        · cases hb
  unfold wpOp
  rw [hi]
  cases hd : dec ops st o with
  | none => unfold step1 at h1; rw [hd] at h1; exact h1.elim
  | some b =>
    have hwb := hw b hd
    cases b with
    | true =>
      have e1 : step1 P mf tb ops st o = ((aop P mf tb st o).pre, st.apply o.dst (aop P mf tb st o)) := by unfold step1; rw [hd]
      rw [e1] at h1 h2 hn
      simp only [hwb, if_true]
      exact .inl (aop_sound htb h hno h1 (fun hv' a' w' hr => hn hv' a' w' h2 hr))
    | false =>
      have e1 : step1 P mf tb ops st o = (True, st.put o.dst .und) := by unfold step1; rw [hd]
      rw [e1] at h2 hn
      simp only [hwb, Bool.false_eq_true, if_false]
      exact hn hv _ _ h2 (h.keep rfl)
theorem aops_lex (htb : TbOK N P tb) : ∀ (l : List Oper) (n : Nat) (hv : Nat → Value) (st : St) (a : Act) (w : World) (K : St → Prop), (∀ i, ops[n + i]? = l[i]?) → n + l.length = ops.size → Fresh l st → Apart l → Rel N F0 M0 w0 hv st a w → aops P mf tb ops l st K →
    (∀ hv' st' a' w', K st' → Rel N F0 M0 w0 hv' st' a' w' → Q .normal a' w') → wpOps P ops Q (List.range' n l.length) a w
  | [], n, hv, st, a, w, K, _, _, _, _, h, hs, hq => hq hv st a w hs h
  | o :: l, n, hv, st, a, w, K, hi, hl, hf, ha, h, hs, hq => by
    simp only [List.length_cons, List.range'_succ]
    rw [wpOps_cons]
    refine astep_sound htb h (fun hm s hd => hf o (by simp) hm s hd) hs (by simpa using hi 0) (fun hv' a' w' hk hr => ?_)
    have ha' := List.pairwise_cons.1 ha
    exact aops_lex htb l (n + 1) hv' _ a' w' K (fun i => by have := hi (i + 1); rw [show n + 1 + i = n + (i + 1) by omega]; simpa using this) (by simp at hl; omega) (hf.step (fun x hx hm s hd => ha'.1 x hx hm s hd)) ha'.2 hr hk hq
theorem to_front {K : St → Prop} : ∀ (l1 : List Oper) (o : Oper) (l2 : List Oper) (st : St), Fresh (l1 ++ o :: l2) st → Apart (l1 ++ o :: l2) → (∀ x ∈ l1, free2 mf ops x o = true) → aops P mf tb ops (l1 ++ o :: l2) st K → aops P mf tb ops (o :: (l1 ++ l2)) st K
  | [], o, l2, st, _, _, _, h => h
  | x :: l1, o, l2, st, hw, ha, hf, h => by
    have h' : astep P mf tb ops x st fun s => aops P mf tb ops (l1 ++ o :: l2) s K := h
    have ha' := List.pairwise_cons.1 ha
    have h2 : astep P mf tb ops x st fun s => astep P mf tb ops o s fun s' => aops P mf tb ops (l1 ++ l2) s' K := by
      rw [astep_iff] at h' ⊢
      exact ⟨h'.1, to_front l1 o l2 _ (Fresh.step (l := l1 ++ o :: l2) hw (fun y hy hm s hd => ha'.1 y hy hm s hd)) ha'.2 (fun y hy => hf y (by simp [hy])) h'.2⟩
    exact swap (fun hm s hd => hw x (by simp) hm s hd) (fun hm s hd => hw o (by simp) hm s hd) (hf x (by simp)) h2
def maskOf (o : Oper) (acc : List Nat) : Nat := o.after.toList.foldl (fun s e => if Region.binds .any e then s ||| 2 ^ e.on ||| acc.getD e.on 0 else s) 0
def bitsOf : List Oper → List Nat → List Nat
  | [], acc => acc
  | o :: r, acc => bitsOf r (acc ++ [maskOf o acc])
def pairsOk (mf : FuncId → Bool) (ops : Array Oper) (B : List Nat) : Bool := (List.range ops.size).all fun i => match ops[i]? with
  | some o => (List.range i).all fun j => (B.getD i 0).testBit j || match ops[j]? with
    | some x => free2 mf ops x o
    | none => false
  | none => false
def edgesOk (ops : Array Oper) : Bool := (List.range ops.size).all fun i => match ops[i]? with
  | some o => o.after.toList.all fun e => !Region.binds .any e || decide (e.on < i)
  | none => false
def drawOk (mf : FuncId → Bool) (ops : Array Oper) : Bool := edgesOk ops && pairsOk mf ops (bitsOf ops.toList [])
theorem bitsOf_spec : ∀ (l : List Oper) (acc : List Nat), (bitsOf l acc).length = acc.length + l.length ∧ (∀ i, i < acc.length → (bitsOf l acc)[i]? = acc[i]?) ∧
    ∀ i o, l[i]? = some o → (bitsOf l acc)[acc.length + i]? = some (maskOf o ((bitsOf l acc).take (acc.length + i)))
  | [], acc => ⟨by simp [bitsOf], fun i _ => rfl, fun i o h => by simp at h⟩
  | x :: l, acc => by
    obtain ⟨h1, h2, h3⟩ := bitsOf_spec l (acc ++ [maskOf x acc])
    simp only [List.length_append, List.length_singleton] at h1 h2 h3
    refine ⟨by simp only [bitsOf, h1, List.length_cons]; omega, fun i hi => ?_, fun i o h => ?_⟩
    · simp only [bitsOf]
      rw [h2 i (by omega), List.getElem?_append_left hi]
    · simp only [bitsOf]
      cases i with
      | zero =>
        simp at h
        subst h
        rw [Nat.add_zero, h2 _ (by omega), List.getElem?_append_right (Nat.le_refl _)]
        simp only [Nat.sub_self, List.getElem?_cons_zero, Option.some.injEq]
        congr 1
        apply List.ext_getElem?
        intro j
        rw [List.getElem?_take]
        split
        · rename_i hj
          rw [h2 j (by omega), List.getElem?_append_left hj]
        · rename_i hj
          rw [List.getElem?_eq_none (by omega)]
      | succ i =>
        have := h3 i o (by simpa using h)
        rw [show acc.length + (i + 1) = acc.length + 1 + i by omega]
        exact this
theorem mask_bit {acc : List Nat} {j : Nat} (h : (maskOf o acc).testBit j = true) : ∃ e ∈ o.after, Region.binds .any e = true ∧ (e.on = j ∨ (acc.getD e.on 0).testBit j = true) := by
  unfold maskOf at h
  have key : ∀ (l : List Edge) (s : Nat), (l.foldl (fun s e => if Region.binds .any e then s ||| 2 ^ e.on ||| acc.getD e.on 0 else s) s).testBit j = true →
      s.testBit j = true ∨ ∃ e ∈ l, Region.binds .any e = true ∧ (e.on = j ∨ (acc.getD e.on 0).testBit j = true) := by
    intro l
    induction l with
    | nil => intro s h; exact .inl h
    | cons e l ih =>
      intro s h
      rw [List.foldl_cons] at h
      rcases ih _ h with h | ⟨e', he', hb, hc⟩
      · split at h
        · rename_i hb
          rw [Nat.testBit_or, Nat.testBit_or, Bool.or_eq_true, Bool.or_eq_true] at h
          rcases h with (h | h) | h
          · exact .inl h
          · rw [Nat.testBit_two_pow] at h
            exact .inr ⟨e, by simp, hb, .inl (by simpa using h)⟩
          · exact .inr ⟨e, by simp, hb, .inr h⟩
        · exact .inl h
      · exact .inr ⟨e', by simp [he'], hb, hc⟩
  rcases key _ _ h with h | ⟨e, he, hb, hc⟩
  · simp at h
  · exact ⟨e, Array.mem_toList_iff.1 he, hb, hc⟩
def left (ops : Array Oper) (listed : Array Bool) : List Nat := (List.range ops.size).filter fun i => !listed.getD i true
def opersOf (ops : Array Oper) (l : List Nat) : List Oper := l.filterMap fun i => ops[i]?
theorem filterMap_range : ∀ (l : List Nat), (∀ i ∈ l, i < ops.size) → l.filterMap (fun i => ops[i]?) = l.map fun i => ops.getD i default
  | [], _ => rfl
  | i :: l, h => by
    have hi := h i (by simp)
    rw [List.filterMap_cons, Array.getElem?_eq_getElem hi, List.map_cons, filterMap_range l (fun j hj => h j (by simp [hj]))]
    simp [Array.getD_eq_getD_getElem?, Array.getElem?_eq_getElem hi]
theorem any_sound (htb : TbOK N P tb) (hap : Apart ops.toList) (hd : drawOk mf ops = true) {K : St → Prop} (hq : ∀ hv' st' a' w', K st' → Rel N F0 M0 w0 hv' st' a' w' → Q .normal a' w') :
    ∀ (fuel : Nat) (listed : Array Bool) (hv : Nat → Value) (st : St) (a : Act) (w : World), listed.size = ops.size → (left ops listed).length ≤ fuel →
      (∀ i j, listed.getD i false = true → ((bitsOf ops.toList []).getD i 0).testBit j = true → listed.getD j false = true) →
      Fresh (opersOf ops (left ops listed)) st → Rel N F0 M0 w0 hv st a w → aops P mf tb ops (opersOf ops (left ops listed)) st K → wpAny P .any ops Q fuel listed a w := by
  unfold drawOk at hd
  rw [Bool.and_eq_true] at hd
  obtain ⟨hedge, hpair⟩ := hd
  obtain ⟨hbl, _, hbs⟩ := bitsOf_spec ops.toList []
  simp only [List.length_nil, Nat.zero_add] at hbl hbs
  have hlt : ∀ i o, ops[i]? = some o → ∀ e ∈ o.after, Region.binds .any e = true → e.on < i := by
    intro i o ho e he hb
    have h1 := List.all_eq_true.1 hedge i (List.mem_range.2 (Array.getElem?_eq_some_iff.1 ho).1)
    rw [ho] at h1
    have h2 := List.all_eq_true.1 h1 e (Array.mem_toList_iff.2 he)
    rw [hb] at h2
    simpa using h2
  -- what i waits for is listed, if its edges' ends are
  have hwait : ∀ (listed : Array Bool), (∀ i j, listed.getD i false = true → ((bitsOf ops.toList []).getD i 0).testBit j = true → listed.getD j false = true) →
      ∀ i o, ops[i]? = some o → (∀ e ∈ o.after, Region.binds .any e = true → listed.getD e.on false = true) → ∀ j, ((bitsOf ops.toList []).getD i 0).testBit j = true → listed.getD j false = true := by
    intro listed hc i o ho hal j hj
    have hb := hbs i o (by simpa using ho)
    rw [List.getD_eq_getElem?_getD, hb, Option.getD_some] at hj
    obtain ⟨e, he, hbi, hor⟩ := mask_bit hj
    have hon := hal e he hbi
    rcases hor with rfl | hor
    · exact hon
    · have hei := hlt i o ho e he hbi
      rw [List.getD_eq_getElem?_getD, List.getElem?_take, if_pos hei, ← List.getD_eq_getElem?_getD] at hor
      exact hc _ _ hon hor
  intro fuel
  induction fuel with
  | zero =>
    intro listed hv st a w hsz hlen hc hfs h hs
    have hnil : left ops listed = [] := List.eq_nil_of_length_eq_zero (by omega)
    rw [hnil] at hs
    refine ⟨?_, hq hv st a w hs h⟩
    cases hr : Region.ready .any ops listed with
    | nil => rfl
    | cons i r =>
      have hi : i ∈ Region.ready .any ops listed := by rw [hr]; simp
      obtain ⟨h0, o, ho, _⟩ := mem_ready.1 hi
      have : i ∈ left ops listed := by
        unfold left
        rw [List.mem_filter, List.mem_range]
        exact ⟨(Array.getElem?_eq_some_iff.1 ho).1, by rw [h0]; rfl⟩
      rw [hnil] at this
      cases this
  | succ fuel ih =>
    intro listed hv st a w hsz hlen hc hfs h hs
    refine ⟨fun hr => ?_, fun i hi => ?_⟩
    · -- none is ready: none is left
      cases hl : left ops listed with
      | nil => rw [hl] at hs; exact hq hv st a w hs h
      | cons k l =>
        exfalso
        -- the least one that is left is ready
        have hex : ∃ m, m < ops.size ∧ listed.getD m true = false ∧ ∀ j, j < m → listed.getD j true = true := by
          have hk : k ∈ left ops listed := by rw [hl]; simp
          unfold left at hk
          rw [List.mem_filter, List.mem_range] at hk
          have hk2 : listed.getD k true = false := by simpa using hk.2
          have key : ∀ n, n ≤ ops.size → (∃ j, j < n ∧ listed.getD j true = false) → ∃ m, m < n ∧ listed.getD m true = false ∧ ∀ j, j < m → listed.getD j true = true := by
            intro n
            induction n with
            | zero => rintro _ ⟨j, hj, _⟩; omega
            | succ n ihn =>
              rintro hn ⟨j, hj, hj2⟩
              by_cases hex : ∃ j, j < n ∧ listed.getD j true = false
              · obtain ⟨m, h1, h2, h3⟩ := ihn (by omega) hex
                exact ⟨m, by omega, h2, h3⟩
              · have hjn : j = n := by
                  rcases Nat.lt_or_ge j n with h' | h'
                  · exact absurd ⟨j, h', hj2⟩ hex
                  · omega
                subst hjn
                refine ⟨j, by omega, hj2, fun x hx => ?_⟩
                cases hxx : listed.getD x true
                · exact absurd ⟨x, hx, hxx⟩ hex
                · rfl
          obtain ⟨m, h1, h2, h3⟩ := key ops.size (Nat.le_refl _) ⟨k, hk.1, hk2⟩
          exact ⟨m, h1, h2, h3⟩
        obtain ⟨m, h1, h2, h3⟩ := hex
        have ho := Array.getElem?_eq_getElem h1
        have : m ∈ Region.ready .any ops listed := by
          rw [mem_ready]
          refine ⟨h2, _, ho, fun e he hb => ?_⟩
          have hel := hlt m _ ho e he hb
          have := h3 e.on hel
          have hes : e.on < listed.size := by omega
          simp only [Array.getD_eq_getD_getElem?, Array.getElem?_eq_getElem hes, Option.getD_some] at this ⊢
          exact this
        rw [hr] at this
        cases this
    · obtain ⟨h0, o, ho, hal⟩ := mem_ready.1 hi
      have hi' : i < ops.size := (Array.getElem?_eq_some_iff.1 ho).1
      -- what is left, ahead of i and behind it
      let p : Nat → Bool := fun k => !listed.getD k true
      let p' : Nat → Bool := fun k => !(listed.setIfInBounds i true).getD k true
      have hsplit : List.range ops.size = List.range' 0 i ++ i :: List.range' (i + 1) (ops.size - i - 1) := by
        rw [List.range_eq_range', show ops.size = i + (ops.size - i - 1 + 1) by omega, ← List.range'_append_1, Nat.zero_add, List.range'_succ]
        congr 3
        omega
      have hpi : p i = true := by show (!listed.getD i true) = true; rw [h0]; rfl
      have hleft : left ops listed = (List.range' 0 i).filter p ++ i :: (List.range' (i + 1) (ops.size - i - 1)).filter p := by
        show (List.range ops.size).filter p = _
        rw [hsplit, List.filter_append, List.filter_cons, if_pos hpi]
      have hpp : ∀ k, k ≠ i → p' k = p k := by
        intro k hk
        show (!(listed.setIfInBounds i true).getD k true) = !listed.getD k true
        rw [getD_set_ne true (Ne.symm hk)]
      have hpi' : p' i = false := by
        show (!(listed.setIfInBounds i true).getD i true) = false
        have : i < listed.size := by omega
        simp [Array.getD_eq_getD_getElem?, Array.getElem?_setIfInBounds, this]
      have hleft' : left ops (listed.setIfInBounds i true) = (List.range' 0 i).filter p ++ (List.range' (i + 1) (ops.size - i - 1)).filter p := by
        show (List.range ops.size).filter p' = _
        rw [hsplit, List.filter_append, List.filter_cons, if_neg (by rw [hpi']; simp)]
        congr 1
        · refine List.filter_congr (fun k hk => hpp k ?_)
          have := List.mem_range'_1.1 hk
          omega
        · refine List.filter_congr (fun k hk => hpp k ?_)
          have := List.mem_range'_1.1 hk
          omega
      have hop : opersOf ops (left ops listed) = opersOf ops ((List.range' 0 i).filter p) ++ o :: opersOf ops ((List.range' (i + 1) (ops.size - i - 1)).filter p) := by
        rw [hleft]
        unfold opersOf
        rw [List.filterMap_append, List.filterMap_cons, ho]
      have hop' : opersOf ops (left ops (listed.setIfInBounds i true)) = opersOf ops ((List.range' 0 i).filter p) ++ opersOf ops ((List.range' (i + 1) (ops.size - i - 1)).filter p) := by
        rw [hleft']
        unfold opersOf
        rw [List.filterMap_append]
      rw [hop] at hs
      have hw := hwait listed hc i o ho hal
      have hfr : ∀ x ∈ opersOf ops ((List.range' 0 i).filter p), free2 mf ops x o = true := by
        intro x hx
        unfold opersOf at hx
        rw [List.mem_filterMap] at hx
        obtain ⟨j, hj, hjx⟩ := hx
        rw [List.mem_filter, List.mem_range'_1] at hj
        obtain ⟨hj1, hj2⟩ := hj
        have h1 := List.all_eq_true.1 hpair i (List.mem_range.2 hi')
        rw [ho] at h1
        have h2 := List.all_eq_true.1 h1 j (List.mem_range.2 (by omega))
        rw [Bool.or_eq_true] at h2
        rcases h2 with h2 | h2
        · have h3 := hw j h2
          have hj2 : (!listed.getD j true) = true := hj2
          have hjs : j < listed.size := by omega
          simp only [Array.getD_eq_getD_getElem?, Array.getElem?_eq_getElem hjs, Option.getD_some] at h3 hj2
          rw [h3] at hj2
          cases hj2
        · rw [hjx] at h2
          exact h2
      rw [hop] at hfs
      have hsub : Apart (opersOf ops ((List.range' 0 i).filter p) ++ o :: opersOf ops ((List.range' (i + 1) (ops.size - i - 1)).filter p)) := by
        rw [← hop]
        refine hap.sublist ?_
        have e1 : ops.toList = opersOf ops (List.range ops.size) := by
          unfold opersOf
          apply List.ext_getElem?
          intro j
          rw [filterMap_range _ (fun i hi => List.mem_range.1 hi), List.getElem?_map]
          by_cases hj : j < ops.size
          · rw [List.getElem?_range hj]
            simp [Array.getD_eq_getD_getElem?, Array.getElem?_eq_getElem hj]
          · rw [List.getElem?_eq_none (by simp; omega), List.getElem?_eq_none (by simp; omega)]
            rfl
        rw [e1]
        exact (List.filter_sublist).filterMap _
      have hs' := to_front _ o _ st hfs hsub hfr hs
      have hmove : (opersOf ops ((List.range' 0 i).filter p) ++ o :: opersOf ops ((List.range' (i + 1) (ops.size - i - 1)).filter p)).Perm (o :: (opersOf ops ((List.range' 0 i).filter p) ++ opersOf ops ((List.range' (i + 1) (ops.size - i - 1)).filter p))) := List.perm_middle
      have hfs2 : Fresh (o :: (opersOf ops ((List.range' 0 i).filter p) ++ opersOf ops ((List.range' (i + 1) (ops.size - i - 1)).filter p))) st := fun x hx => hfs x (hmove.mem_iff.2 hx)
      have hap2 : ∀ x ∈ opersOf ops ((List.range' 0 i).filter p) ++ opersOf ops ((List.range' (i + 1) (ops.size - i - 1)).filter p), (mkOp o.op = true ∨ mkOp x.op = true) → ∀ s, o.dst = some s → x.dst ≠ some s := by
        intro x hx hm s hd
        obtain ⟨q1, q2, q3⟩ := List.pairwise_append.1 hsub
        rcases List.mem_append.1 hx with hx | hx
        · intro hxs
          exact q3 x hx o (by simp) hm.symm s hxs hd
        · exact (List.pairwise_cons.1 q2).1 x hx hm s hd
      have hs'' : astep P mf tb ops o st fun s => aops P mf tb ops (opersOf ops ((List.range' 0 i).filter p) ++ opersOf ops ((List.range' (i + 1) (ops.size - i - 1)).filter p)) s K := hs'
      refine astep_sound htb h (fun hm s hd => hfs2 o (by simp) hm s hd) hs'' ho (fun hv' a' w' hk hr => ?_)
      refine ih _ hv' _ a' w' (by simpa using hsz) ?_ (fun x y hx hy => ?_) (by rw [hop']; exact hfs2.step hap2) hr (by rw [hop']; exact hk)
      · rw [hleft] at hlen
        rw [hleft']
        simp only [List.length_append, List.length_cons] at hlen ⊢
        omega
      · by_cases hxi : x = i
        · subst hxi
          exact getD_set_true (hw y hy)
        · rw [getD_set_ne false (Ne.symm hxi)] at hx
          exact getD_set_true (hc x y hx hy)
theorem Rel.drew {w' : World} (h : Rel N F0 M0 w0 hv st a w) (e : w'.heap = w.heap) (h1 : w'.os = w.os) (h2 : w'.tape = w.tape) (h3 : w'.output = w.output) : Rel N F0 M0 w0 hv st a w' := by
  have hb : Frame0 (Mb M0) w w' := ⟨h1, h2, h3, by rw [e]; exact Nat.le_refl _, fun k _ _ => by rw [e]⟩
  have hF : ∀ b, Fr F0 w0 hv st w b → Fr F0 w0 hv st w' b ∧ w'.heap[b]? = w.heap[b]? := by
    rintro b (hb0 | ⟨k1, k2, k3⟩)
    · exact ⟨.inl hb0, by rw [e]⟩
    · exact ⟨.inr ⟨k1, by rw [e]; exact k2, k3⟩, by rw [e]⟩
  exact {
    lt0 := h.lt0
    ltM := h.ltM
    bel := h.bel.trans hb (fun _ h _ => h)
    tm := fun t => (h.tm t).mono hF (fun o _ => same_refl st hv o)
    sz := h.sz
    ob := fun o ob hd => (h.ob o ob hd).mono hF (fun k _ => by rw [e])
    own := h.own
    inj := h.inj
    df := h.df }
def apartB : List Oper → Bool
  | [] => true
  | o :: r => r.all (fun x => !(mkOp o.op || mkOp x.op) || o.dst == none || x.dst != o.dst) && apartB r
theorem apartB_spec : ∀ (l : List Oper), apartB l = true → Apart l
  | [], _ => List.Pairwise.nil
  | o :: r, h => by
    simp only [apartB, Bool.and_eq_true] at h
    refine List.pairwise_cons.2 ⟨fun x hx hm s hd he => ?_, apartB_spec r h.2⟩
    have := List.all_eq_true.1 h.1 x hx
    have hmm : (mkOp o.op || mkOp x.op) = true := by rcases hm with hm | hm <;> simp [hm]
    rw [hmm, hd, he] at this
    simp at this
theorem region_sound (htb : TbOK N P tb) (hm : P.follows .mixedOrders = true) {id : Nat} {draw : Bool} (hd : draw = true → drawOk mf ops = true) (hap : apartB ops.toList = true) (hfs : Fresh ops.toList st) (h : Rel N F0 M0 w0 hv st a w) {K : St → Prop} (hs : aops P mf tb ops ops.toList st K)
    (hq : ∀ hv' st' a' w', K st' → Rel N F0 M0 w0 hv' st' a' w' → Q .normal a' w') : (Code.region id ops draw).wp P Q a w := by
  have hap := apartB_spec _ hap
  cases draw with
  | false =>
    refine wp_region ?_
    rw [List.range_eq_range']
    have := aops_lex (Q := Q) htb ops.toList 0 hv st a w K (fun i => by simp) (by simp) hfs hap h hs hq
    simpa using this
  | true =>
    refine wp_region_any hm ?_
    have hrep : ∀ k d, k < ops.size → (Array.replicate ops.size false).getD k d = false := by
      intro k d hk
      simp [Array.getD_eq_getD_getElem?, Array.getElem?_replicate, hk]
    have hl : left ops (Array.replicate ops.size false) = List.range ops.size := by
      unfold left
      rw [List.filter_eq_self]
      intro k hk
      rw [hrep k true (List.mem_range.1 hk)]
      rfl
    have hops : opersOf ops (List.range ops.size) = ops.toList := by
      unfold opersOf
      apply List.ext_getElem?
      intro j
      rw [filterMap_range _ (fun i hi => List.mem_range.1 hi), List.getElem?_map]
      by_cases hj : j < ops.size
      · rw [List.getElem?_range hj]
        simp [Array.getD_eq_getD_getElem?, Array.getElem?_eq_getElem hj]
      · rw [List.getElem?_eq_none (by simp; omega), List.getElem?_eq_none (by simp; omega)]
        rfl
    refine any_sound htb hap (hd rfl) hq ops.size _ hv st a _ (by simp) (by rw [hl]; simp) (fun i j hi _ => ?_) (by rw [hl, hops]; exact hfs) (h.drew rfl rfl rfl rfl) (by rw [hl, hops]; exact hs)
    by_cases hk : i < ops.size
    · rw [hrep i false hk] at hi; cases hi
    · rw [Array.getD_eq_getD_getElem?, Array.getElem?_eq_none (by simp; omega)] at hi
      cases hi
end
end Go.Proofs.Ytpggfnggffedlaa.Ae

namespace Go.Proofs.Ytpggfnggffedlaa.Ae
open Go Go.RowKit
def Snd (s s' : St) : Prop := ∀ (N : NR) (F0 : Nat → Prop) (M0 : Nat → Nat → Prop) (w0 : World) (hv : Nat → Value) (a : Act) (w : World), Rel N F0 M0 w0 hv s a w → ∃ hv', Rel N F0 M0 w0 hv' s' a w
theorem Snd.refl (s : St) : Snd s s := fun _ _ _ _ hv _ _ h => ⟨hv, h⟩
theorem Snd.trans {s s' s'' : St} (h : Snd s s') (k : Snd s' s'') : Snd s s'' := fun N F0 M0 w0 hv a w hr => by
  obtain ⟨hv', h'⟩ := h N F0 M0 w0 hv a w hr
  exact k N F0 M0 w0 hv' a w h'
theorem Snd.frz (s : St) (l : List Nat) : Snd s (s.frz l) := fun _ _ _ _ hv _ _ h => ⟨hv, h.frz l⟩
def Rv.ren (ρ : Nat → Nat) : Rv → Rv
  | .ref o => .ref (ρ o)
  | r => r
def X.ren (ρ : Nat → Nat) : X → X
  | .obj o p off => .obj (ρ o) p off
  | .row o => .row (ρ o)
  | .elt o i p off => .elt (ρ o) i p off
  | .win o lo n => .win (ρ o) lo n
  | .arr o sz n => .arr (ρ o) sz n
  | .mpx o => .mpx (ρ o)
  | .tup rs => .tup (rs.map (Rv.ren ρ))
  | x => x
def XLe (ρ : Nat → Nat) (x x' : X) : Prop := x' = .any ∨ x = x'.ren ρ
structure Le (ρ : Nat → Nat) (s s' : St) : Prop where
  len : s'.tm.length = s.tm.length
  tm : ∀ t, XLe ρ (s.get t) (s'.get t)
  ob : ∀ o ob, s'.obj o = some ob → s.obj (ρ o) = some ob
  pb : ∀ o d, s'.obj o = some (.pbox d) → ρ o = o
  pr : ∀ o sz e cp xs, s'.obj o = some (.prow sz e cp xs) → ρ o = o
  inj : ∀ o o' ob ob', s'.obj o = some ob → s'.obj o' = some ob' → ρ o = ρ o' → o = o'
theorem Le.snd {ρ : Nat → Nat} {s s' : St} (h : Le ρ s s') : Snd s s' := by
  intro N F0 M0 w0 hv a w hr
  refine ⟨fun o => hv (ρ o), ?_⟩
  have hF : ∀ b, Fr F0 w0 hv s w b → Fr F0 w0 (fun o => hv (ρ o)) s' w b ∧ w.heap[b]? = w.heap[b]? := by
    rintro b (hb | ⟨h1, h2, h3⟩)
    · exact ⟨.inl hb, rfl⟩
    · exact ⟨.inr ⟨h1, h2, fun o ob hd hl => h3 (ρ o) ob (h.ob o ob hd) hl⟩, rfl⟩
  have hbox : ∀ o, (∃ d, s'.box? o = some d) → ∃ d, s.box? (ρ o) = some d := by
    rintro o ⟨d, hd⟩
    unfold St.box? at hd ⊢
    cases hh : s'.obj o with
    | none => rw [hh] at hd; cases hd
    | some ob => rw [hh] at hd; rw [h.ob o ob hh]; exact ⟨d, hd⟩
  have hrow : ∀ o r, s'.row? o = some r → s.row? (ρ o) = some r := by
    intro o r hd
    unfold St.row? at hd ⊢
    cases hh : s'.obj o with
    | none => rw [hh] at hd; cases hd
    | some ob => rw [hh] at hd; rw [h.ob o ob hh]; exact hd
  have hrv : ∀ (r : Rv) (v : Value), RepRv N (Fr F0 w0 hv s w) hv s w (r.ren ρ) v → RepRv N (Fr F0 w0 (fun o => hv (ρ o)) s' w) (fun o => hv (ρ o)) s' w r v := by
    intro r v hx
    cases r with
    | dat d => exact RepV.mono hF hx
    | ref o =>
      obtain ⟨b, h1, h2⟩ := hx
      exact ⟨b, h1, fun hd => h2 (hbox o hd)⟩
  refine ⟨hr.lt0, hr.ltM, hr.bel, fun t => ?_, by rw [h.len]; exact hr.sz, fun o ob hd => ?_, fun o ob b hd hb => ?_, fun o o' ob ob' b h1 h2 e1 e2 => ?_, hr.df⟩
  · rcases h.tm t with e | e
    · rw [e]; trivial
    · have hx := hr.tm t
      rw [e] at hx
      cases hx' : s'.get t with
      | any => trivial
      | und => rw [hx'] at hx; exact hx
      | dat d => rw [hx'] at hx; exact RepV.mono hF hx
      | tup rs =>
        rw [hx'] at hx
        obtain ⟨vs, e1, hl, hs⟩ := hx
        refine ⟨vs, e1, by simpa using hl, fun i r u g1 g2 => hrv r u (hs i (r.ren ρ) u (by rw [List.getElem?_map, g1]; rfl) g2)⟩
      | obj o p off =>
        rw [hx'] at hx
        obtain ⟨b, h1, h2⟩ := hx
        exact ⟨b, h1, fun hd => h2 (hbox o hd)⟩
      | row o => rw [hx'] at hx; rintro ⟨r, hd⟩; exact hx ⟨r, hrow o r hd⟩
      | elt o i p off =>
        rw [hx'] at hx
        obtain ⟨b, k, h1, h2⟩ := hx
        exact ⟨b, k, h1, fun sz e xs hd => h2 sz e xs (hrow o _ hd)⟩
      | win o lo n => rw [hx'] at hx; intro sz e xs hd; exact hx sz e xs (hrow o _ hd)
      | arr o sz n =>
        rw [hx'] at hx
        obtain ⟨b, h1, h2⟩ := hx
        exact ⟨b, h1, fun hd => h2 (hbox o hd)⟩
      | clo f ds =>
        rw [hx'] at hx
        obtain ⟨vs, h1, h2⟩ := hx
        exact ⟨vs, h1, h2.mono hF⟩
      | mpx o =>
        rw [hx'] at hx
        rintro ⟨I, hd⟩
        refine hx ⟨I, ?_⟩
        unfold St.mp? at hd ⊢
        cases ho : s'.obj o with
        | none => rw [ho] at hd; cases hd
        | some ob => rw [h.ob o ob ho]; rw [ho] at hd; exact hd
  · exact (hr.ob (ρ o) ob (h.ob o ob hd)).mono hF (fun _ _ => rfl)
  · have := hr.own (ρ o) ob b (h.ob o ob hd) hb
    cases ob with
    | pbox d => have e := h.pb o d hd; rw [e] at this; exact this
    | prow sz e cp xs => have e := h.pr o sz e cp xs hd; rw [e] at this; exact this
    | _ => exact this
  · exact h.inj o o' ob ob' h1 h2 (hr.inj (ρ o) (ρ o') ob ob' b (h.ob o ob h1) (h.ob o' ob' h2) e1 e2)
def Sub (d d' : D) : Prop := ∀ (N : NR) (F : Nat → Prop) (w : World) (cs : List Value), Rep N F w d cs → Rep N F w d' cs
theorem Sub.refl (d : D) : Sub d d := fun _ _ _ _ h => h
theorem Sub.nil (sz : Nat) : Sub (.lit (.slice none 0 0)) (.sl sz []) := fun N F w cs h => by
  cases h with
  | lit _ => exact .sl (xs := []) none 0 (fun _ => []) (by simp) (by simp) (fun h => absurd h (by simp)) (fun i d h => by simp at h)
theorem Sub.agg {ds ds' : List D} (hl : ds.length = ds'.length) (h : ∀ (i : Nat) (d d' : D), ds[i]? = some d → ds'[i]? = some d' → Sub d d') : Sub (.agg ds) (.agg ds') := fun N F w cs hr => by
  cases hr with
  | agg hc hh =>
    refine .agg (by rw [hc, hl]) (fun i d' cs g1 g2 => ?_)
    have hi : i < ds.length := by rw [hl]; exact (List.getElem?_eq_some_iff.1 g1).1
    exact h i ds[i] d' (List.getElem?_eq_getElem hi) g1 N F w cs (hh i _ cs (List.getElem?_eq_getElem hi) g2)
theorem Sub.ptr {d d' : D} (h : Sub d d') : Sub (.ptr d) (.ptr d') := fun N F w cs hr => by
  cases hr with
  | ptr b off es hb hc hr => exact .ptr b off es hb hc (h N F w es hr)
theorem Sub.sl {sz : Nat} {xs xs' : List D} (hl : xs.length = xs'.length) (h : ∀ (i : Nat) (d d' : D), xs[i]? = some d → xs'[i]? = some d' → Sub d d') : Sub (.sl sz xs) (.sl sz xs') := fun N F w cs hr => by
  cases hr with
  | sl A c es hc hm ha hh =>
    rw [hl] at hc ha ⊢
    refine .sl A c es hc hm ha (fun i d' g => ?_)
    have hi : i < xs.length := by rw [hl]; exact (List.getElem?_eq_some_iff.1 g).1
    exact h i xs[i] d' (List.getElem?_eq_getElem hi) g N F w _ (hh i _ (List.getElem?_eq_getElem hi))
theorem Sub.repV {N : NR} {F : Nat → Prop} {w : World} {d d' : D} {v : Value} (h : Sub d d') (ha : d.isAgg = d'.isAgg) (hr : RepV N F w d v) : RepV N F w d' v := by
  obtain ⟨cs, h1, e⟩ := hr
  refine ⟨cs, h N F w cs h1, ?_⟩
  rw [e]
  unfold mkV
  rw [ha]
def NoRefs (ids : List Nat) : List X → Prop
  | [] => True
  | x :: r => (∀ o ∈ x.refs, o ∉ ids) ∧ NoRefs ids r
def mkIds : List Oper → List Nat
  | [] => []
  | o :: r => match mkOp o.op, o.dst with
    | true, some s => s :: mkIds r
    | _, _ => mkIds r
theorem noRefs_get {ids : List Nat} : ∀ (l : List X), NoRefs ids l → ∀ x ∈ l, ∀ o ∈ x.refs, o ∉ ids
  | [], _, x, hx => by cases hx
  | y :: l, h, x, hx => by
    rcases List.mem_cons.1 hx with rfl | hx
    · exact h.1
    · exact noRefs_get l h.2 x hx
theorem mkIds_mem : ∀ (l : List Oper) (x : Oper), x ∈ l → mkOp x.op = true → ∀ s, x.dst = some s → s ∈ mkIds l
  | [], x, hx, _, _, _ => by cases hx
  | o :: l, x, hx, hm, s, hs => by
    unfold mkIds
    rcases List.mem_cons.1 hx with rfl | hx
    · rw [hm, hs]; simp
    · have := mkIds_mem l x hx hm s hs
      split
      · exact List.mem_cons_of_mem _ this
      · exact this
theorem fresh_of {l : List Oper} {st : St} (h : mkIds l = [] ∨ NoRefs (mkIds l) st.tm) : Fresh l st := by
  intro x hx hm s hs t hr
  have hmem := mkIds_mem l x hx hm s hs
  rcases h with h | h
  · rw [h] at hmem; cases hmem
  · have hl : t < st.tm.length := by
      rcases Nat.lt_or_ge t st.tm.length with h' | h'
      · exact h'
      · simp [St.get, List.getD_eq_getElem?_getD, List.getElem?_eq_none h', X.refs] at hr
    have hget : st.get t = st.tm[t] := by simp [St.get, List.getD_eq_getElem?_getD, hl]
    rw [hget] at hr
    exact noRefs_get st.tm h _ (List.getElem_mem hl) s hr hmem
def refineC (st : St) (c : Operand) (b : Bool) : St := match c with
  | .tmp t => st.put (some t) (.dat (.lit (.bool b)))
  | _ => st
def LoopW (b : St → (Exit → St → Prop) → Prop) (st : St) (K : Exit → St → Prop) : Prop := ∃ I : Nat → St → Prop, (∃ n s0, Snd st s0 ∧ I n s0) ∧ ∀ n s, I n s → b s fun e s' => match e with
    | .normal => ∃ m s'', m < n ∧ Snd s' s'' ∧ I m s''
    | e => K e s'
def isNx : List Oper → Bool
  | o :: _ => match o.op, o.guard with
    | .next _ false, none => true
    | _, _ => false
  | [] => false
def nxW (l : List Oper) (st : St) (K : St → Prop) : Prop := match l with
  | [o1, o2] => match o1.op, o1.dst, o1.guard, o2.op, o2.dst, o2.guard with
    | .next x false, some d1, none, .extract (.tmp t) 0, some d2, none => match ev st x with
      | .mpx o => match st.mp? o with
        | some (t', c :: left) => (t' = itK ∧ t = d1 ∧ d1 < st.tm.length) ∧ (left = [] → K ((st.put (some d1) .any).put (some d2) (.dat (.lit (.bool false))))) ∧
            ∀ (i : Nat) (k v : Value), left[i]? = some (.tuple ⟨[k, v]⟩) → K (({ (st.put (some d1) .any) with ob := st.ob.set o (some (.mp itK (.tuple ⟨[k, v]⟩ :: left.eraseIdx i))) } : St).put (some d2) (.dat (.lit (.bool true))))
        | _ => False
      | _ => False
    | _, _, _, _, _, _ => False
  | _ => False
def mfR (mf : FuncId → Bool) (id : Nat) (f : FuncId) : Bool := mf f || mf (f + 10000000 * (id + 1))
def awp (P : Program) (mf : FuncId → Bool) (tb : FuncId → Option Ct) : Code → St → (Exit → St → Prop) → Prop
  | .skip, st, K => K .normal st
  | .region id ops d, st, K => match isNx ops.toList with
    | true => d = false ∧ nxW ops.toList st (K .normal)
    | false => (mkIds ops.toList = [] ∨ NoRefs (mkIds ops.toList) st.tm) ∧ aops P (mfR mf id) tb ops ops.toList st fun s => K .normal s
  | .seq x y, st, K => awp P mf tb x st fun e s => match e with
    | .normal => awp P mf tb y s K
    | e => K e s
  | .cond c x y, st, K => match ev st c with
    | .dat (.lit (.bool v)) => (v = true → awp P mf tb x (refineC st c true) K) ∧ (v = false → awp P mf tb y (refineC st c false) K)
    | _ => False
  | .block id x, st, K => awp P mf tb x st fun e s => match e with
    | .exit i => if i = id then K .normal s else K (.exit i) s
    | e => K e s
  | .loop x, st, K => LoopW (fun s K' => awp P mf tb x s K') st K
  | .exit id, st, K => K (.exit id) st
  | .ret, st, K => K .ret st
  | _, _, _ => False
@[congr] theorem awp_cg {P : Program} {mf : FuncId → Bool} {tb : FuncId → Option Ct} {c : Code} {K : Exit → St → Prop} {st st' : St} (h : st = st') : awp P mf tb c st K = awp P mf tb c st' K := by rw [h]
@[congr] theorem aops_cg {P : Program} {mf : FuncId → Bool} {tb : FuncId → Option Ct} {ops : Array Oper} {l : List Oper} {K : St → Prop} {st st' : St} (h : st = st') : aops P mf tb ops l st K = aops P mf tb ops l st' K := by rw [h]
@[congr] theorem astep_cg {P : Program} {mf : FuncId → Bool} {tb : FuncId → Option Ct} {ops : Array Oper} {o : Oper} {K : St → Prop} {st st' : St} (h : st = st') : astep P mf tb ops o st K = astep P mf tb ops o st' K := by rw [h]
@[congr] theorem loopW_cg {b : St → (Exit → St → Prop) → Prop} {K : Exit → St → Prop} {st st' : St} (h : st = st') : LoopW b st K = LoopW b st' K := by rw [h]
def drawAll (mf : FuncId → Bool) : Code → Bool
  | .region id ops d => (!d || drawOk (mfR mf id) ops) && apartB ops.toList
  | .seq x y => drawAll mf x && drawAll mf y
  | .cond _ x y => drawAll mf x && drawAll mf y
  | .block _ x => drawAll mf x
  | .loop x => drawAll mf x
  | _ => true
def Runs (N : NR) (P : Program) (c : Code) (st : St) (K : Exit → St → Prop) : Prop := ∀ (F0 : Nat → Prop) (M0 : Nat → Nat → Prop) (w0 : World) (hv : Nat → Value) (a : Act) (w : World) (Q : Exit → Act → World → Prop), Rel N F0 M0 w0 hv st a w →
  (∀ e hv' st' a' w', K e st' → Rel N F0 M0 w0 hv' st' a' w' → Q e a' w') → c.wp P Q a w
section
variable {P : Program} {mf : FuncId → Bool} {tb : FuncId → Option Ct} {N : NR} {F0 : Nat → Prop} {M0 : Nat → Nat → Prop} {w0 : World} {hv : Nat → Value} {st : St} {a : Act} {w : World} {Q : Exit → Act → World → Prop}
theorem Runs.snd {c : Code} {s : St} {K : Exit → St → Prop} (h : Snd st s) (hr : Runs N P c s K) : Runs N P c st K := fun F0 M0 w0 hv a w Q hrel hq => by
  obtain ⟨hv', h'⟩ := h N F0 M0 w0 hv a w hrel
  exact hr F0 M0 w0 hv' a w Q h' hq
theorem Runs.mono {c : Code} {K K' : Exit → St → Prop} (h : Runs N P c st K) (hk : ∀ e s, K e s → K' e s) : Runs N P c st K' := fun F0 M0 w0 hv a w Q hrel hq => h F0 M0 w0 hv a w Q hrel (fun e hv' st' a' w' h1 h2 => hq e hv' st' a' w' (hk e st' h1) h2)
theorem Runs.seq {x y : Code} {K1 K : Exit → St → Prop} (hx : Runs N P x st K1) (hy : ∀ s, K1 .normal s → Runs N P y s K) (he : ∀ e s, e ≠ .normal → K1 e s → K e s) : Runs N P (.seq x y) st K := fun F0 M0 w0 hv a w Q hrel hq => by
  refine wp_seq (hx F0 M0 w0 hv a w _ hrel (fun e hv' st' a' w' hk hr => ?_))
  cases e with
  | normal => exact hy st' hk F0 M0 w0 hv' a' w' Q hr hq
  | _ => exact hq _ _ _ _ _ (he _ _ (by simp) hk) hr
theorem Runs.block {x : Code} {id : Nat} {K : Exit → St → Prop} (hx : Runs N P x st fun e s => match e with | .exit i => if i = id then K .normal s else K (.exit i) s | e => K e s) : Runs N P (.block id x) st K := fun F0 M0 w0 hv a w Q hrel hq => by
  refine wp_block (hx F0 M0 w0 hv a w _ hrel (fun e hv' st' a' w' hk hr => ?_))
  cases e with
  | exit i =>
    simp only [] at hk
    simp only [Exit.inBlock]
    split
    · rename_i e; rw [if_pos e] at hk; exact hq _ _ _ _ _ hk hr
    · rename_i e; rw [if_neg e] at hk; exact hq _ _ _ _ _ hk hr
  | _ => exact hq _ _ _ _ _ hk hr
theorem Runs.loop {x : Code} {K : Exit → St → Prop} (I : Nat → St → Prop) {n : Nat} {s0 : St} (h0 : Snd st s0) (hn : I n s0) (hx : ∀ n s, I n s → Runs N P x s fun e s' => match e with | .normal => ∃ m s'', m < n ∧ Snd s' s'' ∧ I m s'' | e => K e s') : Runs N P (.loop x) st K := fun F0 M0 w0 hv a w Q hrel hq => by
  obtain ⟨hv0, h0'⟩ := h0 N F0 M0 w0 hv a w hrel
  refine wp_loop_ghost (fun n a w => ∃ hv st, I n st ∧ Rel N F0 M0 w0 hv st a w) n ⟨hv0, s0, hn, h0'⟩ (fun n a w hn => ?_)
  obtain ⟨hv, st, hn, h⟩ := hn
  refine hx n st hn F0 M0 w0 hv a w _ h (fun e hv' st' a' w' hk hr => ?_)
  cases e with
  | normal =>
    obtain ⟨m, s'', hlt, hle, hm'⟩ := hk
    obtain ⟨hv'', h''⟩ := hle N F0 M0 w0 hv' a' w' hr
    exact ⟨m, hlt, hv'', s'', hm', h''⟩
  | _ => exact hq _ _ _ _ _ hk hr
theorem refineC_self {c : Operand} {v : Bool} (h : ev st c = .dat (.lit (.bool v))) : refineC st c v = st := by
  cases c with
  | tmp t => exact put_self st t h (by simp)
  | _ => rfl
theorem Runs.cond {c : Operand} {x y : Code} {K : Exit → St → Prop} {v : Bool} (e : ev st c = .dat (.lit (.bool v))) (hx : v = true → Runs N P x (refineC st c true) K) (hy : v = false → Runs N P y (refineC st c false) K) : Runs N P (.cond c x y) st K := fun F0 M0 w0 hv a w Q h hq => by
  obtain ⟨hvl, _⟩ := ev_lit h e
  refine wp_cond_split hvl (fun ht => ?_) (fun hf => ?_)
  · subst ht
    have := hx rfl
    rw [refineC_self e] at this
    exact this F0 M0 w0 hv a w Q h hq
  · subst hf
    have := hy rfl
    rw [refineC_self e] at this
    exact this F0 M0 w0 hv a w Q h hq
theorem nx_sound {id : Nat} {ops : Array Oper} {K : St → Prop} (h : Rel N F0 M0 w0 hv st a w) (hs : nxW ops.toList st K) (hq : ∀ hv' st' a' w', K st' → Rel N F0 M0 w0 hv' st' a' w' → Q .normal a' w') : (Code.region id ops false).wp P Q a w := by
  unfold nxW at hs
  split at hs
  · rename_i o1 o2 hl
    split at hs
    · rename_i x d1 t d2 q1 q2 q3 q4 q5 q6
      split at hs
      · rename_i ob ex
        split at hs
        · rename_i t' c left eI
          obtain ⟨⟨rfl, rfl, hlt⟩, hs0, hs1⟩ := hs
          have ho : ops = #[o1, o2] := by rw [← Array.toArray_toList (xs := ops), hl]
          subst ho
          refine wp_region ?_
          show wpOps P #[o1, o2] Q [0, 1] a w
          have hsz : t < a.tmps.size := by rw [← h.sz]; exact hlt
          have fin : ∀ (b : Bool) (vs : Array Value) (hv' : Nat → Value) (s1 : St) (a1 : Act) (w' : World), vs[0]? = some (.bool b) → a1.tmps.getD t undef = .tuple vs → Rel N F0 M0 w0 hv' s1 a1 w' → K (s1.put (some d2) (.dat (.lit (.bool b)))) → wpOps P #[o1, o2] Q [1] a1 w' := by
            intro b vs hv' s1 a1 w' hvs ha1 hr hk
            rw [wpOps_cons]
            unfold wpOp
            have hw : Region.wanted o2 (yielded #[o1, o2] a1.tmps) = true := by unfold Region.wanted; rw [q6]
            simp only [List.getElem?_toArray, List.getElem?_cons_succ, List.getElem?_cons_zero, hw, if_true]
            refine .inl ?_
            have hrun : (execOp a1.eval o2).run P w' = .ok (.value (.bool b)) w' := by
              simp only [execOp, q4]
              have : a1.eval (.tmp t) = .tuple vs := ha1
              rw [this]
              simp [Instr.extract, hvs]
            refine wp_value hrun ?_
            show Q .normal _ w'
            rw [q5]
            exact hq hv' _ _ _ hk (hr.grow (dst := some d2) (x := .dat (.lit (.bool b))) (v := .bool b) (Frame0.refl _ _) (RepV.of_lit rfl))
          rw [wpOps_cons]
          unfold wpOp
          have hw : Region.wanted o1 (yielded #[o1, o2] a.tmps) = true := by unfold Region.wanted; rw [q3]
          simp only [List.getElem?_toArray, List.getElem?_cons_zero, hw, if_true]
          refine .inl ?_
          have hput : ∀ v, (a.put (some t) v).tmps.getD t undef = v := by
            intro v
            simp [Act.put, Array.getD_eq_getD_getElem?, hsz]
          refine nextM_sound q1 h ex eI (fun hl0 w' hr => ?_) (fun i k v hi w' hr => ?_)
          · rw [q2] at hr ⊢
            exact fin false _ hv _ _ w' rfl (hput _) hr (hs0 hl0)
          · rw [q2] at hr ⊢
            exact fin true _ hv _ _ w' rfl (hput _) hr (hs1 i k v hi)
        · exact hs.elim
      · exact hs.elim
    · exact hs.elim
  · exact hs.elim
theorem awp_sound (htb : TbOK N P tb) (hm : P.follows .mixedOrders = true) : ∀ (c : Code) (st : St) (K : Exit → St → Prop), drawAll mf c = true → awp P mf tb c st K → Runs N P c st K := by
  intro c
  induction c with
  | skip => intro st K _ hs F0 M0 w0 hv a w Q h hq; exact Go.wp_skip (hq _ _ _ _ _ hs h)
  | region id ops d =>
    intro st K hd hs F0 M0 w0 hv a w Q h hq
    simp only [drawAll, Bool.and_eq_true] at hd
    unfold awp at hs
    split at hs
    · obtain ⟨rfl, hs⟩ := hs
      exact nx_sound h hs (fun hv' st' a' w' hk hr => hq _ _ _ _ _ hk hr)
    · refine region_sound htb hm (fun e => ?_) hd.2 (fresh_of hs.1) h hs.2 (fun hv' st' a' w' hk hr => hq _ _ _ _ _ hk hr)
      subst e
      simpa using hd.1
  | seq x y ihx ihy =>
    intro st K hd hs
    simp only [drawAll, Bool.and_eq_true] at hd
    refine Runs.seq (ihx st _ hd.1 hs) (fun s hk => ihy s K hd.2 hk) (fun e s hne hk => ?_)
    cases e with
    | normal => exact absurd rfl hne
    | _ => exact hk
  | cond c x y ihx ihy =>
    intro st K hd hs
    simp only [drawAll, Bool.and_eq_true] at hd
    simp only [awp] at hs
    split at hs
    · rename_i v e
      exact Runs.cond e (fun hv => ihx _ K hd.1 (hs.1 hv)) (fun hv => ihy _ K hd.2 (hs.2 hv))
    · exact hs.elim
  | block id x ih =>
    intro st K hd hs
    exact Runs.block (ih st _ hd hs)
  | loop x ih =>
    intro st K hd hs
    obtain ⟨I, ⟨n, s0, h0, hn⟩, hI⟩ := hs
    exact Runs.loop I h0 hn (fun n s hn => ih s _ hd (hI n s hn))
  | exit id => intro st K _ hs F0 M0 w0 hv a w Q h hq; exact wp_exit (hq _ _ _ _ _ hs h)
  | ret => intro st K _ hs F0 M0 w0 hv a w Q h hq; exact wp_ret (hq _ _ _ _ _ hs h)
  | _ => intros; rename_i hs; exact hs.elim
end
end Go.Proofs.Ytpggfnggffedlaa.Ae

namespace Go.Proofs.Ytpggfnggffedlaa.Ae
open Go Go.RowKit
def resD (P : Program) (nt : Nat) (st : St) : ResultVar → Option (Prop × Rv)
  | .tmp t => match st.get t with
    | .dat d => some (True, .dat d)
    | .obj o [] 0 => match st.obj o with
      | some (.pbox _) => some (nt ≤ o, .ref (o - nt))
      | some (.box d) => some (True, .dat (.ptr d))
      | some (.fbox d) => some (True, .dat (.ptr d))
      | _ => none
    | .row o => match st.drow? o with
      | some (sz, _, xs) => some (True, .dat (.sl sz xs))
      | none => none
    | .win o lo n => match st.drow? o with
      | some (sz, _, xs) => some (lo + n ≤ xs.length, .dat (.sl sz ((xs.drop lo).take n)))
      | none => none
    | _ => none
  | .cell t ty => match st.get t with
    | .obj o p off => match st.box? o with
      | some d => match nav d p with
        | some (e, off') => some (off' = off ∧ P.cellsOf ty = e.size ∧ isAggT P ty = e.isAgg ∧ (P.underlying ty).isSome ∧ (P.info? ty).isSome, .dat e)
        | none => none
      | none => none
    | _ => none
def retA (P : Program) (nt : Nat) (st : St) : List ResultVar → (List Rv → Prop) → Prop
  | [], K => K []
  | r :: rs, K => match resD P nt st r with
    | some (p, d) => p ∧ retA P nt st rs fun ds => K (d :: ds)
    | none => False
def RvSub : Rv → Rv → Prop
  | .dat d, .dat d' => Sub d d' ∧ d.isAgg = d'.isAgg
  | .ref i, .ref j => i = j
  | _, _ => False
def RvSubs : List Rv → List Rv → Prop
  | [], [] => True
  | r :: rs, r' :: rs' => RvSub r r' ∧ RvSubs rs rs'
  | _, _ => False
theorem RvSub.refl (r : Rv) : RvSub r r := by cases r <;> first | exact ⟨Sub.refl _, rfl⟩ | rfl
theorem RvSubs.refl : ∀ rs, RvSubs rs rs
  | [] => trivial
  | r :: rs => ⟨RvSub.refl r, RvSubs.refl rs⟩
def BoxSubs (st : St) : Nat → List D → Prop
  | _, [] => True
  | k, d :: ds => (∃ d0, st.obj k = some (.pbox d0) ∧ Sub d0 d) ∧ BoxSubs st (k + 1) ds
def startAr (nt : Nat) : Ar → X
  | .dat d => .dat d
  | .ref i => .obj (nt + i) [] 0
def start (nt : Nat) (ars : List Ar) (ds : List D) : St := ⟨ars.map (startAr nt) ++ List.replicate (nt - ars.length) .und, List.replicate nt none ++ ds.map fun d => some (.pbox d)⟩
def endK (P : Program) (nt : Nat) (rs : List ResultVar) (want : List Rv) (boxes : List D) : Exit → St → Prop
  | .ret, s => retA P nt s rs (fun got => RvSubs got want) ∧ BoxSubs s nt boxes
  | .normal, s => retA P nt s rs (fun got => RvSubs got want) ∧ BoxSubs s nt boxes
  | _, _ => False
section
variable {P : Program} {mf : FuncId → Bool} {tb : FuncId → Option Ct} {N : NR} {F0 : Nat → Prop} {M0 : Nat → Nat → Prop} {w0 : World} {hv : Nat → Value} {st : St} {a : Act} {w : World} {Q : Exit → Act → World → Prop}
def resSem (tmps : Array Value) : ResultVar → Sem Value
  | .tmp t => pure (tmps.getD t undef)
  | .cell a t => do loadVar t (← asAddr (tmps.getD a undef))
theorem results_eq (fn : Func) (tmps : Array Value) : results fn tmps = (do
    let vs ← fn.results.mapM (resSem tmps)
    pure (if h : vs.size = 1 then vs[0] else .tuple vs)) := by
  unfold results
  congr 1
def FE (F0 : Nat → Prop) (w0 w : World) (k : Nat) : Prop := F0 k ∨ (w0.heap.size ≤ k ∧ k < w.heap.size)
theorem FE_Fr (h : Rel N F0 M0 w0 hv st a w) (k : Nat) (hk : Fr F0 w0 hv st w k) : FE F0 w0 w k := by
  rcases hk with hk | ⟨h1, h2, _⟩
  · exact .inl hk
  · exact .inr ⟨h1, h2⟩
theorem FE_own (h : Rel N F0 M0 w0 hv st a w) {o : Nat} {ob : Ob} (hd : st.obj o = some ob) (hn : ob.mine) (k : Nat) (hk : blkOf (hv o) = some k) : FE F0 w0 w k := by
  have h1 := h.own o ob k hd hk
  have h2 := (h.ob o ob hd).lt k hk
  cases ob <;> first | exact hn.elim | exact .inr ⟨h1, h2⟩
theorem drow_spec {o : Nat} {r : Nat × TypeId × List D} (h : st.drow? o = some r) : st.row? o = some r ∧ ∃ ob, st.obj o = some ob ∧ ob.mine := by
  unfold St.drow? at h
  unfold St.row?
  split at h
  · rename_i hd; rw [hd]; exact ⟨h, _, rfl, trivial⟩
  · rename_i hd; rw [hd]; exact ⟨h, _, rfl, trivial⟩
  · cases h
theorem resD_run (h : Rel N F0 M0 w0 hv st a w) {nt : Nat} {bs : List Nat} (hM : ∀ o b, M0 o b → ∃ i, o = nt + i ∧ bs[i]? = some b) {r : ResultVar} {p : Prop} {d : Rv} (e : resD P nt st r = some (p, d)) (hp : p) :
    ∃ v, (resSem a.tmps r).run P w = .ok v w ∧ RvR N (FE F0 w0 w) w bs d v := by
  cases r with
  | tmp t =>
    have hx := h.tm t
    refine ⟨a.tmps.getD t undef, by simp [resSem], ?_⟩
    simp only [resD] at e
    split at e
    · rename_i d' e1
      injection e with e
      injection e with e2 e3
      subst e3
      rw [e1] at hx
      exact RepV.weak hx (FE_Fr h)
    · rename_i o e1
      rw [e1] at hx
      obtain ⟨b, g1, g2⟩ := hx
      split at e
      · rename_i d' hd
        injection e with e
        injection e with e2 e3
        subst e3
        rw [← e2] at hp
        have g2 := g2 ⟨d', by unfold St.box?; rw [hd]⟩
        have hm := h.own o _ b hd (by rw [g2]; rfl)
        obtain ⟨i, h1, h2⟩ := hM o b hm
        refine ⟨b, ?_, g1⟩
        rw [h1, Nat.add_sub_cancel_left]
        exact h2
      · rename_i d' hd
        injection e with e
        injection e with e2 e3
        subst e3
        have hb : st.box? o = some d' := by unfold St.box?; rw [hd]
        have := box_data h hb (F := FE F0 w0 w) (FE_Fr h) (FE_own h hd trivial)
        rw [g2 ⟨_, hb⟩, ← g1] at this
        exact this
      · rename_i d' hd
        injection e with e
        injection e with e2 e3
        subst e3
        have hb : st.box? o = some d' := by unfold St.box?; rw [hd]
        have := box_data h hb (F := FE F0 w0 w) (FE_Fr h) (FE_own h hd trivial)
        rw [g2 ⟨_, hb⟩, ← g1] at this
        exact this
      · cases e
    · rename_i o e1
      rw [e1] at hx
      split at e
      · rename_i sz e' xs hrow
        injection e with e
        injection e with e2 e3
        subst e3
        obtain ⟨hrow, ob, hd, hn⟩ := drow_spec hrow
        have := row_data' h hrow (F := FE F0 w0 w) (FE_Fr h) (FE_own h hd hn)
        rw [← hx ⟨_, hrow⟩] at this
        exact this
      · cases e
    · rename_i o lo n e1
      rw [e1] at hx
      split at e
      · rename_i sz e' xs hrow
        injection e with e
        injection e with e2 e3
        subst e3
        rw [← e2] at hp
        obtain ⟨hrow, ob, hd, hn⟩ := drow_spec hrow
        obtain ⟨A, N', c, A', g1, g2, g3⟩ := hx _ _ _ hrow
        obtain ⟨c', h1, h2⟩ := row_data h hrow hp (F := FE F0 w0 w) (FE_Fr h) (FE_own h hd hn) (A' := A') (fun A1 N1 c1 e1 hp => by
          rw [g1] at e1
          injection e1 with e2 _ _
          subst e2
          exact g3 (.inl hp))
        show RepV _ _ _ _ _
        rw [g2, ← h1 _ _ _ g1]
        exact h2
      · cases e
    · cases e
  | cell t ty =>
    simp only [resD] at e
    split at e
    · rename_i o pth off hx
      split at e
      · rename_i d' hd
        split at e
        · rename_i e' off' hn
          injection e with e
          injection e with e1 e2
          subst e2
          rw [← e1] at hp
          obtain ⟨h0, h1, h2, h3, h4⟩ := hp
          have hv' := h.tm t
          rw [hx] at hv'
          obtain ⟨b, g2, g1⟩ := hv'
          have g1 := g1 ⟨d', hd⟩
          obtain ⟨b', cs, t', g3, hc, hr⟩ := box_rep h hd
          rw [g1] at g3
          injection g3 with g3
          injection g3 with g3
          injection g3 with g3
          subst g3
          obtain ⟨es, k1, k2⟩ := part_cells (cells_of_block hc) hr hn
          rw [Nat.zero_add, h0] at k1
          have hl := k2.len
          have := run_loadVar (P := P) (t := ty) k1 (by omega) h3 h4 (fun hf => by rw [hl]; exact D.one_cell (by rw [← h2]; exact hf))
          refine ⟨mkV e' es, ?_, es, k2.weak (FE_Fr h), rfl⟩
          simp only [resSem]
          rw [g2]
          simp [asAddr, this, mkV, h2]
        · cases e
      · cases e
    · cases e
theorem RvSub.rep {F : Nat → Prop} {bs : List Nat} {r r' : Rv} {v : Value} (h : RvSub r r') (hr : RvR N F w bs r v) : RvR N F w bs r' v := by
  cases r <;> cases r' <;> first | exact h.elim | skip
  · exact Sub.repV h.1 h.2 hr
  · simp only [RvSub] at h
    subst h
    exact hr
theorem retA_run (h : Rel N F0 M0 w0 hv st a w) {nt : Nat} {bs : List Nat} (hM : ∀ o b, M0 o b → ∃ i, o = nt + i ∧ bs[i]? = some b) : ∀ (rs : List ResultVar) (K : List Rv → Prop), retA P nt st rs K → ∃ ds vs, K ds ∧ (rs.mapM (resSem a.tmps)).run P w = .ok vs w ∧
    ds.length = vs.length ∧ ∀ (i : Nat) (d : Rv) (v : Value), ds[i]? = some d → vs[i]? = some v → RvR N (FE F0 w0 w) w bs d v
  | [], K, hk => ⟨[], [], hk, by simp, rfl, fun i d v h1 => by simp at h1⟩
  | r :: rs, K, hk => by
    simp only [retA] at hk
    split at hk
    · rename_i p d e
      obtain ⟨v, hv', hr⟩ := resD_run h hM e hk.1
      obtain ⟨ds, vs, k1, k2, k3, k4⟩ := retA_run h hM rs _ hk.2
      refine ⟨d :: ds, v :: vs, k1, ?_, by simp [k3], fun i d' v' h1 h2 => ?_⟩
      · rw [List.mapM_cons]
        simp only [Sem.run_bind, hv', Result.andThen_ok, k2]
        rfl
      · cases i with
        | zero => simp at h1 h2; subst h1 h2; exact hr
        | succ i => exact k4 i d' v' (by simpa using h1) (by simpa using h2)
    · exact hk.elim
theorem subs_rep {F : Nat → Prop} {bs : List Nat} : ∀ (rs rs' : List Rv) (vs : List Value), RvSubs rs rs' → rs.length = vs.length → (∀ (i : Nat) (d : Rv) (v : Value), rs[i]? = some d → vs[i]? = some v → RvR N F w bs d v) →
    rs'.length = vs.length ∧ ∀ (i : Nat) (d : Rv) (v : Value), rs'[i]? = some d → vs[i]? = some v → RvR N F w bs d v
  | [], [], vs, _, hl, h => ⟨hl, h⟩
  | r :: rs, r' :: rs', [], _, hl, _ => by simp at hl
  | r :: rs, r' :: rs', v :: vs, hs, hl, h => by
    obtain ⟨k1, k2⟩ := subs_rep rs rs' vs hs.2 (by simpa using hl) (fun i d v h1 h2 => h (i + 1) d v (by simpa using h1) (by simpa using h2))
    refine ⟨by simp [k1], fun i d u h1 h2 => ?_⟩
    cases i with
    | zero => simp at h1 h2; subst h1 h2; exact hs.1.rep (h 0 r v rfl rfl)
    | succ i => exact k2 i d u (by simpa using h1) (by simpa using h2)
  | [], _ :: _, _, hs, _, _ => hs.elim
  | _ :: _, [], _, hs, _, _ => hs.elim
theorem boxSubs_at (st : St) : ∀ (ds : List D) (k : Nat), BoxSubs st k ds → ∀ (i : Nat) (d : D), ds[i]? = some d → ∃ d0, st.obj (k + i) = some (.pbox d0) ∧ Sub d0 d
  | [], k, _, i, d, h => by simp at h
  | x :: ds, k, hb, 0, d, h => by
    simp at h
    subst h
    exact hb.1
  | x :: ds, k, hb, i + 1, d, h => by
    have := boxSubs_at st ds (k + 1) hb.2 i d (by simpa using h)
    rw [show k + (i + 1) = k + 1 + i by omega]
    exact this
theorem resR_of {F : Nat → Prop} {bs : List Nat} : ∀ (rs : List Rv) (vs2 : List Value), rs.length = vs2.length → (∀ (i : Nat) (d : Rv) (v : Value), rs[i]? = some d → vs2[i]? = some v → RvR N F w bs d v) →
    ResR N F w bs rs (if hh : vs2.length = 1 then vs2[0] else .tuple vs2.toArray)
  | [d], [v], _, hrep' => hrep' 0 d v rfl rfl
  | [], [], _, hrep' => ⟨#[], rfl, rfl, fun i r u h => by simp at h⟩
  | d1 :: d2 :: ds2, v1 :: v2 :: vs2, hl, hrep' => ⟨(v1 :: v2 :: vs2).toArray, by simp, by simpa using hl, fun i r u h1 h2 => hrep' i r u h1 (by simpa using h2)⟩
  | [], _ :: _, hl, _ => by simp at hl
  | [_], [], hl, _ => by simp at hl
  | [_], _ :: _ :: _, hl, _ => by simp at hl
  | _ :: _ :: _, [], hl, _ => by simp at hl
  | _ :: _ :: _, [_], hl, _ => by simp at hl
theorem specM_of' {f : FuncId} {fn : Func} {c : Code} {ars : List Ar} {ds : List D} {K : Exit → St → Prop} (hf : P.funcs[f]? = some fn) (hb : fn.body = some c) (hle : ars.length ≤ fn.ntmps) (hw : Runs N P c (start fn.ntmps ars ds) K)
    (F : Nat → Prop) (w : World) (bs : List Nat) (vs : List Value) (hF : ∀ k, F k → k < w.heap.size ∧ k ∉ bs) (hok : N.ok F w) (hnd : bs.Nodup) (hin : InBoxes N F w bs ds) (hlen : ars.length = vs.length) (hvs : ∀ (i : Nat) (x : Ar) (v : Value), ars[i]? = some x → vs[i]? = some v → ArR N F w bs x v)
    (R : Value → World → Prop) (hR : ∀ e hv' st' a' w' M0, (∀ o b, M0 o b → ∃ i, o = fn.ntmps + i ∧ bs[i]? = some b) → K e st' → Rel N F M0 w hv' st' a' w' → (e = .ret ∨ e = .normal) ∧ a'.defers = [] ∧ ∃ v, (results fn a'.tmps).run P w' = .ok v w' ∧ R v w') :
    Calls P f vs.toArray w fun ee w' => ∃ v, ee = .returned v ∧ R v w' := by
  refine calls_of_wp hf hb ?_
  let hv : Nat → Value := fun o => .pointer (some ⟨bs.getD (o - fn.ntmps) 0, 0, none⟩)
  let M0 : Nat → Nat → Prop := fun o b => ∃ i, o = fn.ntmps + i ∧ bs[i]? = some b
  have hobj : ∀ o ob, (start fn.ntmps ars ds).obj o = some ob → ∃ i d b, o = fn.ntmps + i ∧ ds[i]? = some d ∧ bs[i]? = some b ∧ ob = .pbox d ∧ hv o = .pointer (some ⟨b, 0, none⟩) := by
    intro o ob hd
    simp only [St.obj, start, List.getD_eq_getElem?_getD, List.getElem?_append, List.length_replicate] at hd
    split at hd
    · simp only [List.getElem?_replicate] at hd
      split at hd <;> cases hd
    · rename_i ho
      rw [List.getElem?_map] at hd
      cases hds : ds[o - fn.ntmps]? with
      | none => rw [hds] at hd; cases hd
      | some d =>
        rw [hds] at hd
        simp only [Option.map_some, Option.getD_some, Option.some.injEq] at hd
        have hil : o - fn.ntmps < bs.length := by rw [hin.1]; exact (List.getElem?_eq_some_iff.1 hds).1
        have hb := List.getElem?_eq_getElem hil
        refine ⟨o - fn.ntmps, d, bs[o - fn.ntmps], by omega, hds, hb, hd.symm, ?_⟩
        show Value.pointer (some ⟨bs.getD (o - fn.ntmps) 0, 0, none⟩) = _
        rw [List.getD_eq_getElem?_getD, hb]
        rfl
  have hmem : ∀ k, Mb M0 k → k ∈ bs := by
    rintro k ⟨o, i, _, hi⟩
    exact List.mem_of_getElem? hi
  have hrel : Rel N F M0 w hv (start fn.ntmps ars ds) { tmps := vs.toArray ++ Array.replicate (fn.ntmps - vs.toArray.size) undef, defers := [] } w := by
    refine ⟨fun k hk => ⟨(hF k hk).1, fun hm => (hF k hk).2 (hmem k hm)⟩, fun k hm => ?_, Frame0.refl _ _, fun t => ?_, ?_, fun o ob hd => ?_, fun o ob b hd hb => ?_, fun o o' ob ob' b h1 h2 e1 e2 => ?_, ⟨rfl, hok⟩⟩
    · obtain ⟨i, hi⟩ := List.getElem?_of_mem (hmem k hm)
      have hil : i < ds.length := by rw [← hin.1]; exact (List.getElem?_eq_some_iff.1 hi).1
      obtain ⟨cs, t, hc, _⟩ := hin.2 i k _ hi (List.getElem?_eq_getElem hil)
      exact (Array.getElem?_eq_some_iff.1 hc).1
    · simp only [St.get, start, List.getD_eq_getElem?_getD, List.getElem?_append, List.length_map, Array.getD_eq_getD_getElem?, Array.getElem?_append, List.size_toArray, List.getElem?_map]
      rw [← hlen]
      split
      · rename_i ht
        have hd := List.getElem?_eq_getElem ht
        have hvl : t < vs.length := by rw [← hlen]; exact ht
        have hv' := List.getElem?_eq_getElem hvl
        rw [hd]
        simp only [Option.map_some, Option.getD_some, List.getElem?_toArray, hv']
        have hr := hvs t _ _ hd hv'
        cases hx : ars[t] with
        | dat d =>
          rw [hx] at hr
          exact RepV.mono (fun b hb => ⟨.inl hb, rfl⟩) hr
        | ref i =>
          rw [hx] at hr
          obtain ⟨b, k1, k2⟩ := hr
          refine ⟨b, k2, fun _ => ?_⟩
          show Value.pointer (some ⟨bs.getD (fn.ntmps + i - fn.ntmps) 0, 0, none⟩) = _
          rw [Nat.add_sub_cancel_left, List.getD_eq_getElem?_getD, k1]
          rfl
      · simp only [List.getElem?_replicate, Array.getElem?_replicate]
        split
        · exact rfl
        · trivial
    · simp only [start, List.length_append, List.length_map, List.length_replicate, Array.size_append, List.size_toArray, Array.size_replicate, hlen]
    · obtain ⟨i, d, b, h1, h2, h3, rfl, h5⟩ := hobj o ob hd
      obtain ⟨cs, t, hc, hr⟩ := hin.2 i b d h3 h2
      exact ⟨b, cs, t, h5, hc, hr.mono (fun b hb => ⟨.inl hb, rfl⟩)⟩
    · obtain ⟨i, d, b', h1, h2, h3, rfl, h5⟩ := hobj o ob hd
      rw [h5] at hb
      injection hb with hb
      exact ⟨i, h1, by rw [h3]; exact congrArg some hb⟩
    · obtain ⟨j, d', b2, g1, g2, g3, rfl, g5⟩ := hobj o' ob' h2
      obtain ⟨i, d, b1, h1, h2, h3, rfl, h5⟩ := hobj o ob h1
      rw [h5] at e1
      rw [g5] at e2
      injection e1 with e1
      injection e2 with e2
      simp only at e1 e2
      subst e1
      subst e2
      have hi := (List.getElem?_eq_some_iff.1 h3).1
      have hj := (List.getElem?_eq_some_iff.1 g3).1
      have : bs[i] = bs[j] := by
        rw [List.getElem?_eq_getElem hi] at h3
        rw [List.getElem?_eq_getElem hj] at g3
        rw [Option.some.inj h3, Option.some.inj g3]
      have := (List.getElem_inj hnd).1 this
      omega
  refine hw F M0 w hv _ w _ hrel (fun e hv' st' a' w' hk hr => ?_)
  obtain ⟨h0, h1, v, h2, h3⟩ := hR e hv' st' a' w' M0 (fun o b h => h) hk hr
  rcases h0 with rfl | rfl
  · exact ⟨h1, v, h2, v, rfl, h3⟩
  · exact ⟨h1, v, h2, v, rfl, h3⟩
theorem specM_of {f : FuncId} {fn : Func} {c : Code} {g : List Ar → List D → Prop × List Rv × List D} (hf : P.funcs[f]? = some fn) (hb : fn.body = some c)
    (h : ∀ ars ds, (g ars ds).1 → ars.length ≤ fn.ntmps ∧ (g ars ds).2.2.length = ds.length ∧ Runs N P c (start fn.ntmps ars ds) (endK P fn.ntmps fn.results.toList (g ars ds).2.1 (g ars ds).2.2)) : SpecM N P f g := by
  intro ars ds hp F w bs vs hF hok hnd hin hlen hvs
  obtain ⟨hle, hdl, hw⟩ := h ars ds hp
  refine calls_of_wp hf hb ?_
  let hv : Nat → Value := fun o => .pointer (some ⟨bs.getD (o - fn.ntmps) 0, 0, none⟩)
  let M0 : Nat → Nat → Prop := fun o b => ∃ i, o = fn.ntmps + i ∧ bs[i]? = some b
  have hobj : ∀ o ob, (start fn.ntmps ars ds).obj o = some ob → ∃ i d b, o = fn.ntmps + i ∧ ds[i]? = some d ∧ bs[i]? = some b ∧ ob = .pbox d ∧ hv o = .pointer (some ⟨b, 0, none⟩) := by
    intro o ob hd
    simp only [St.obj, start, List.getD_eq_getElem?_getD, List.getElem?_append, List.length_replicate] at hd
    split at hd
    · simp only [List.getElem?_replicate] at hd
      split at hd <;> cases hd
    · rename_i ho
      rw [List.getElem?_map] at hd
      cases hds : ds[o - fn.ntmps]? with
      | none => rw [hds] at hd; cases hd
      | some d =>
        rw [hds] at hd
        simp only [Option.map_some, Option.getD_some, Option.some.injEq] at hd
        have hil : o - fn.ntmps < bs.length := by rw [hin.1]; exact (List.getElem?_eq_some_iff.1 hds).1
        have hb := List.getElem?_eq_getElem hil
        refine ⟨o - fn.ntmps, d, bs[o - fn.ntmps], by omega, hds, hb, hd.symm, ?_⟩
        show Value.pointer (some ⟨bs.getD (o - fn.ntmps) 0, 0, none⟩) = _
        rw [List.getD_eq_getElem?_getD, hb]
        rfl
  have hmem : ∀ k, Mb M0 k → k ∈ bs := by
    rintro k ⟨o, i, _, hi⟩
    exact List.mem_of_getElem? hi
  have hrel : Rel N F M0 w hv (start fn.ntmps ars ds) { tmps := vs.toArray ++ Array.replicate (fn.ntmps - vs.toArray.size) undef, defers := [] } w := by
    refine ⟨fun k hk => ⟨(hF k hk).1, fun hm => (hF k hk).2 (hmem k hm)⟩, fun k hm => ?_, Frame0.refl _ _, fun t => ?_, ?_, fun o ob hd => ?_, fun o ob b hd hb => ?_, fun o o' ob ob' b h1 h2 e1 e2 => ?_, ⟨rfl, hok⟩⟩
    · obtain ⟨i, hi⟩ := List.getElem?_of_mem (hmem k hm)
      have hil : i < ds.length := by rw [← hin.1]; exact (List.getElem?_eq_some_iff.1 hi).1
      obtain ⟨cs, t, hc, _⟩ := hin.2 i k _ hi (List.getElem?_eq_getElem hil)
      exact (Array.getElem?_eq_some_iff.1 hc).1
    · simp only [St.get, start, List.getD_eq_getElem?_getD, List.getElem?_append, List.length_map, Array.getD_eq_getD_getElem?, Array.getElem?_append, List.size_toArray, List.getElem?_map]
      rw [← hlen]
      split
      · rename_i ht
        have hd := List.getElem?_eq_getElem ht
        have hvl : t < vs.length := by rw [← hlen]; exact ht
        have hv' := List.getElem?_eq_getElem hvl
        rw [hd]
        simp only [Option.map_some, Option.getD_some, List.getElem?_toArray, hv']
        have hr := hvs t _ _ hd hv'
        cases hx : ars[t] with
        | dat d =>
          rw [hx] at hr
          exact RepV.mono (fun b hb => ⟨.inl hb, rfl⟩) hr
        | ref i =>
          rw [hx] at hr
          obtain ⟨b, k1, k2⟩ := hr
          refine ⟨b, k2, fun _ => ?_⟩
          show Value.pointer (some ⟨bs.getD (fn.ntmps + i - fn.ntmps) 0, 0, none⟩) = _
          rw [Nat.add_sub_cancel_left, List.getD_eq_getElem?_getD, k1]
          rfl
      · simp only [List.getElem?_replicate, Array.getElem?_replicate]
        split
        · exact rfl
        · trivial
    · simp only [start, List.length_append, List.length_map, List.length_replicate, Array.size_append, List.size_toArray, Array.size_replicate, hlen]
    · obtain ⟨i, d, b, h1, h2, h3, rfl, h5⟩ := hobj o ob hd
      obtain ⟨cs, t, hc, hr⟩ := hin.2 i b d h3 h2
      exact ⟨b, cs, t, h5, hc, hr.mono (fun b hb => ⟨.inl hb, rfl⟩)⟩
    · obtain ⟨i, d, b', h1, h2, h3, rfl, h5⟩ := hobj o ob hd
      rw [h5] at hb
      injection hb with hb
      exact ⟨i, h1, by rw [h3]; exact congrArg some hb⟩
    · obtain ⟨j, d', b2, g1, g2, g3, rfl, g5⟩ := hobj o' ob' h2
      obtain ⟨i, d, b1, h1, h2, h3, rfl, h5⟩ := hobj o ob h1
      rw [h5] at e1
      rw [g5] at e2
      injection e1 with e1
      injection e2 with e2
      simp only at e1 e2
      subst e1
      subst e2
      have hi := (List.getElem?_eq_some_iff.1 h3).1
      have hj := (List.getElem?_eq_some_iff.1 g3).1
      have : bs[i] = bs[j] := by
        rw [List.getElem?_eq_getElem hi] at h3
        rw [List.getElem?_eq_getElem hj] at g3
        rw [Option.some.inj h3, Option.some.inj g3]
      have := (List.getElem_inj hnd).1 this
      omega
  refine hw F M0 w hv _ w _ hrel (fun e hv' st' a' w' hk hr => ?_)
  have hMM : ∀ o b, M0 o b → ∃ i, o = fn.ntmps + i ∧ bs[i]? = some b := fun o b h => h
  have fin : retA P fn.ntmps st' fn.results.toList (fun got => RvSubs got (g ars ds).2.1) ∧ BoxSubs st' fn.ntmps (g ars ds).2.2 → a'.defers = [] ∧ ∃ v, (results fn a'.tmps).run P w' = .ok v w' ∧ ∃ v', Ending.returned v = .returned v' ∧
      ResR N (fun k => F k ∨ (w.heap.size ≤ k ∧ k < w'.heap.size)) w' bs (g ars ds).2.1 v' ∧ Frame0 (· ∈ bs) w w' ∧ InBoxes N (fun k => F k ∨ (w.heap.size ≤ k ∧ k < w'.heap.size)) w' bs (g ars ds).2.2 := by
    rintro ⟨hk, hbx⟩
    obtain ⟨ds2, vs2, e2, hrun, hl2, hrep⟩ := retA_run hr hMM _ _ hk
    obtain ⟨hl3, hrep⟩ := subs_rep ds2 _ vs2 e2 hl2 hrep
    refine ⟨hr.df.1, if hh : vs2.length = 1 then vs2[0] else .tuple vs2.toArray, ?_, _, rfl, ?_, ?_, ⟨by rw [hin.1, hdl], fun i b d g1 g2 => ?_⟩⟩
    · rw [results_eq, Array.mapM_eq_mapM_toList]
      simp [hrun]
    · exact resR_of _ _ hl3 hrep
    · exact ⟨hr.bel.os, hr.bel.tape, hr.bel.output, hr.bel.size, fun k hk hn => hr.bel.block k hk (fun hm => hn (hmem k hm))⟩
    · obtain ⟨d0, k1, k2⟩ := boxSubs_at st' _ _ hbx i d g2
      obtain ⟨b', cs, t, q1, q2, q3⟩ := hr.ob _ _ k1
      have hm := hr.own _ _ b' k1 (by rw [q1]; rfl)
      obtain ⟨j, m1, m2⟩ := hm
      have : i = j := by omega
      subst this
      rw [g1] at m2
      obtain rfl := Option.some.inj m2
      exact ⟨cs, t, q2, (k2 _ _ _ _ q3).weak (FE_Fr hr)⟩
  cases e with
  | ret => exact fin hk
  | normal => exact fin hk
  | _ => exact hk.elim
theorem specD_of {f : FuncId} {fn : Func} {c : Code} {g : List D → Prop × List D} (hf : P.funcs[f]? = some fn) (hb : fn.body = some c)
    (h : ∀ ds, (g ds).1 → ds.length ≤ fn.ntmps ∧ Runs N P c (start fn.ntmps (ds.map .dat) []) (endK P fn.ntmps fn.results.toList ((g ds).2.map .dat) [])) : SpecD N P f g := by
  intro ds hp F w vs hF hok hvs
  obtain ⟨h1, h2⟩ := h ds hp
  have key := specM_of (N := N) (g := fun ars bs => (ars = ds.map .dat ∧ bs = [], (g ds).2.map .dat, [])) hf hb (fun ars bs hh => by
    obtain ⟨rfl, rfl⟩ := hh
    exact ⟨by simpa using h1, rfl, h2⟩) (ds.map .dat) [] ⟨rfl, rfl⟩ F w [] vs (fun k hk => ⟨hF k hk, by simp⟩) hok List.nodup_nil ⟨rfl, fun i b d h => by simp at h⟩ (by simp [hvs.1]) (fun i x v g1 g2 => by
    rw [List.getElem?_map, Option.map_eq_some_iff] at g1
    obtain ⟨d, hd, rfl⟩ := g1
    exact hvs.2 i d v hd g2)
  refine key.mono ?_
  rintro e w' ⟨v, rfl, hr, hb, _⟩
  refine ⟨v, rfl, ?_, ⟨hb.os, hb.tape, hb.output, hb.size, fun k hk hn => hb.block k hk (by simp)⟩⟩
  have many : ∀ ds' : List D, (∃ vs, v = .tuple vs ∧ (ds'.map Rv.dat).length = vs.size ∧ ∀ (i : Nat) (r : Rv) (u : Value), (ds'.map Rv.dat)[i]? = some r → vs[i]? = some u → RvR N (fun k => F k ∨ (w.heap.size ≤ k ∧ k < w'.heap.size)) w' [] r u) → ∃ vs, v = .tuple vs ∧ RepVs N (fun k => F k ∨ (w.heap.size ≤ k ∧ k < w'.heap.size)) w' ds' vs.toList := by
    rintro ds' ⟨vs, e, hl, hs⟩
    refine ⟨vs, e, by simpa using hl, fun i d u h1 h2 => hs i (.dat d) u (by rw [List.getElem?_map, h1]; rfl) (by simpa using h2)⟩
  revert hr
  generalize (g ds).2 = rs
  intro hr
  match rs, hr with
  | [d], hr => exact hr
  | [], hr => exact many [] hr
  | d1 :: d2 :: ds2, hr => exact many (d1 :: d2 :: ds2) hr
end
def startW (nt lo n : Nat) (ds : List D) (sz : Nat) (e : TypeId) (cp : Nat) (xs : List D) : St := ⟨.win nt lo n :: (ds.map .dat ++ List.replicate (nt - (ds.length + 1)) .und), List.replicate nt none ++ [some (.prow sz e cp xs)]⟩
def resWk (P : Program) (nt : Nat) (rs : List ResultVar) (want : Option Wr) (s : St) : Prop := match rs, want with
  | [], none => True
  | [r], some (.dat d) => retA P nt s [r] (fun got => RvSubs got [.dat d])
  | [.tmp t], some (.win lo n) => s.get t = .win nt lo n ∧ (0 < n ∨ lo = 0)
  | _, _ => False
def endW (P : Program) (nt : Nat) (rs : List ResultVar) (want : Option Wr) (sz : Nat) (e : TypeId) (cp : Nat) (xs' : List D) : Exit → St → Prop
  | .ret, s => resWk P nt rs want s ∧ s.obj nt = some (.prow sz e cp xs')
  | .normal, s => resWk P nt rs want s ∧ s.obj nt = some (.prow sz e cp xs')
  | _, _ => False
def endO (rs : List ResultVar) (sz : Nat) (e : TypeId) (want : List D) : Exit → St → Prop
  | .ret, s => ∃ t o xs, rs = [.tmp t] ∧ s.obj o = some (.row sz e xs) ∧ ((s.get t = .row o ∧ xs = want) ∨ ∃ n, s.get t = .win o 0 n ∧ n ≤ xs.length ∧ xs.take n = want)
  | .normal, s => ∃ t o xs, rs = [.tmp t] ∧ s.obj o = some (.row sz e xs) ∧ ((s.get t = .row o ∧ xs = want) ∨ ∃ n, s.get t = .win o 0 n ∧ n ≤ xs.length ∧ xs.take n = want)
  | _, _ => False
section
variable {P : Program} {N : NR}
theorem results_none {fn : Func} (h : fn.results.toList = []) (tmps : Array Value) {w : World} : (results fn tmps).run P w = .ok (.tuple #[]) w := by
  rw [results_eq, Array.mapM_eq_mapM_toList, h]
  simp
theorem results_one {fn : Func} {r : ResultVar} (h : fn.results.toList = [r]) (tmps : Array Value) {w : World} {v : Value} (hv : (resSem tmps r).run P w = .ok v w) : (results fn tmps).run P w = .ok v w := by
  rw [results_eq, Array.mapM_eq_mapM_toList, h]
  simp [hv]
theorem specW_of {f : FuncId} {fn : Func} {c : Code} {sz : Nat} {e : TypeId} {g : List D → Nat → Nat → List D → Prop × Option Wr × List D} (hf : P.funcs[f]? = some fn) (hb : fn.body = some c)
    (h : ∀ xs lo n ds, (g xs lo n ds).1 → 0 < xs.length → lo + n ≤ xs.length → (0 < n ∨ lo = 0) → ds.length + 1 ≤ fn.ntmps ∧ (g xs lo n ds).2.2.length = xs.length ∧ ∀ cp, Runs N P c (startW fn.ntmps lo n ds sz e cp xs) (endW P fn.ntmps fn.results.toList (g xs lo n ds).2.1 sz e cp (g xs lo n ds).2.2)) : SpecW N P f sz e g := by
  intro xs lo n ds hp hl0 hle hnl F w b cp vs hF hok hrow hvs
  obtain ⟨hnt, hxl, hw⟩ := h xs lo n ds hp hl0 hle hnl
  refine calls_of_wp hf hb ?_
  let hv : Nat → Value := fun _ => .slice (some ⟨b, 0, none⟩) xs.length cp
  let M0 : Nat → Nat → Prop := fun o b' => o = fn.ntmps ∧ b' = b
  have hobj : ∀ o ob, (startW fn.ntmps lo n ds sz e cp xs).obj o = some ob → o = fn.ntmps ∧ ob = .prow sz e cp xs := by
    intro o ob hd
    simp only [St.obj, startW, List.getD_eq_getElem?_getD, List.getElem?_append, List.length_replicate] at hd
    split at hd
    · simp only [List.getElem?_replicate] at hd
      split at hd <;> cases hd
    · rename_i ho
      cases hk : o - fn.ntmps with
      | zero => rw [hk] at hd; simp at hd; exact ⟨by omega, hd.symm⟩
      | succ k => rw [hk] at hd; simp at hd
  have hblt : b < w.heap.size := by
    obtain ⟨css, hown, _⟩ := hrow
    rcases hown.2 with ⟨he, _⟩ | ⟨g, cap, cur, he, _, hg, _⟩
    · cases he
    · injection he with he
      injection he with he
      injection he with he
      subst he
      exact (Array.getElem?_eq_some_iff.1 hg).1
  have hrow? : ∀ sz' e' xs', (startW fn.ntmps lo n ds sz e cp xs).row? fn.ntmps = some (sz', e', xs') → sz' = sz := by
    intro sz' e' xs' hr
    unfold St.row? at hr
    cases hh : (startW fn.ntmps lo n ds sz e cp xs).obj fn.ntmps with
    | none => rw [hh] at hr; cases hr
    | some ob =>
      rw [hh, (hobj _ _ hh).2] at hr
      simp at hr
      exact hr.1.symm
  have hrel : Rel N F M0 w hv (startW fn.ntmps lo n ds sz e cp xs) { tmps := (Value.slice (some ⟨b, lo * sz, none⟩) n (cp - lo) :: vs).toArray ++ Array.replicate (fn.ntmps - (Value.slice (some ⟨b, lo * sz, none⟩) n (cp - lo) :: vs).toArray.size) undef, defers := [] } w := by
    refine ⟨fun k hk => ⟨(hF k hk).1, fun ⟨o, _, e⟩ => (hF k hk).2 e⟩, fun k ⟨o, _, e⟩ => e ▸ hblt, Frame0.refl _ _, fun t => ?_, ?_, fun o ob hd => ?_, fun o ob b' hd hb' => ?_, fun o o' ob ob' b' h1 h2 _ _ => ?_, ⟨rfl, hok⟩⟩
    · cases t with
      | zero =>
        have e1 : (startW fn.ntmps lo n ds sz e cp xs).get 0 = .win fn.ntmps lo n := rfl
        have e2 : ((Value.slice (some ⟨b, lo * sz, none⟩) n (cp - lo) :: vs).toArray ++ Array.replicate (fn.ntmps - (Value.slice (some ⟨b, lo * sz, none⟩) n (cp - lo) :: vs).toArray.size) undef).getD 0 undef = Value.slice (some ⟨b, lo * sz, none⟩) n (cp - lo) := by
          simp only [Array.getD_eq_getD_getElem?, Array.getElem?_append, List.size_toArray, List.length_cons, Nat.zero_lt_succ, if_true]
          rfl
        rw [e1, e2]
        intro sz' e' xs' hr
        rw [hrow? _ _ _ hr]
        exact ⟨some ⟨b, 0, none⟩, xs.length, cp, some ⟨b, lo * sz, none⟩, rfl, rfl, fun _ => by simp [add_plain]⟩
      | succ t =>
        have e1 : (startW fn.ntmps lo n ds sz e cp xs).get (t + 1) = (ds.map X.dat ++ List.replicate (fn.ntmps - (ds.length + 1)) X.und).getD t .any := rfl
        rw [e1]
        simp only [List.getD_eq_getElem?_getD, List.getElem?_append, List.length_map, Array.getD_eq_getD_getElem?, Array.getElem?_append, List.size_toArray, List.getElem?_map, List.length_cons]
        rw [← hvs.1]
        by_cases ht : t < ds.length
        · have ht' : t + 1 < ds.length + 1 := by omega
          rw [if_pos ht, if_pos ht']
          have hd := List.getElem?_eq_getElem ht
          have hvl : t < vs.length := by rw [← hvs.1]; exact ht
          have hv' := List.getElem?_eq_getElem hvl
          rw [hd]
          simp only [Option.map_some, Option.getD_some, List.getElem?_toArray, List.getElem?_cons_succ, hv']
          exact RepV.mono (fun b hb => ⟨.inl hb, rfl⟩) (hvs.2 t _ _ hd hv')
        · have ht' : ¬ t + 1 < ds.length + 1 := by omega
          rw [if_neg ht, if_neg ht']
          simp only [List.getElem?_replicate, Array.getElem?_replicate]
          have e2 : (t - ds.length < fn.ntmps - (ds.length + 1)) ↔ (t + 1 - (ds.length + 1) < fn.ntmps - (ds.length + 1)) := by omega
          by_cases h3 : t - ds.length < fn.ntmps - (ds.length + 1)
          · rw [if_pos h3, if_pos (e2.1 h3)]; exact rfl
          · rw [if_neg h3, if_neg (fun q => h3 (e2.2 q))]; trivial
    · simp only [startW, List.length_append, List.length_cons, List.length_map, List.length_replicate, Array.size_append, List.size_toArray, Array.size_replicate, hvs.1]
      omega
    · obtain ⟨rfl, rfl⟩ := hobj o ob hd
      obtain ⟨css, h1, h2, h3⟩ := hrow
      exact ⟨css, ⟨h1, b, rfl⟩, h2, fun i d cs g1 g2 => ⟨(h3 i d cs g1 g2).1, (h3 i d cs g1 g2).2.mono (fun b hb => ⟨.inl hb, rfl⟩)⟩⟩
    · obtain ⟨rfl, rfl⟩ := hobj o ob hd
      have : b = b' := by simpa [blkOf, hv] using hb'
      exact ⟨rfl, this.symm⟩
    · rw [(hobj o ob h1).1, (hobj o' ob' h2).1]
  refine hw cp F M0 w hv _ w _ hrel (fun ee hv' st' a' w' hk hr => ?_)
  have fin : resWk P fn.ntmps fn.results.toList (g xs lo n ds).2.1 st' ∧ st'.obj fn.ntmps = some (.prow sz e cp (g xs lo n ds).2.2) → a'.defers = [] ∧ ∃ v, (results fn a'.tmps).run P w' = .ok v w' ∧ ∃ v', Ending.returned v = .returned v' ∧
      WrR N (fun k => F k ∨ (w.heap.size ≤ k ∧ k < w'.heap.size)) w' b sz cp (g xs lo n ds).2.1 v' ∧ Frame0 (· = b) w w' ∧ (g xs lo n ds).2.2.length = xs.length ∧ RowAt N (fun k => F k ∨ (w.heap.size ≤ k ∧ k < w'.heap.size)) w' b sz e cp (g xs lo n ds).2.2 := by
    rintro ⟨hk, hbx⟩
    have hfr : Frame0 (· = b) w w' := ⟨hr.bel.os, hr.bel.tape, hr.bel.output, hr.bel.size, fun k hk hn => hr.bel.block k hk (fun ⟨o, _, e⟩ => hn e)⟩
    obtain ⟨css, ⟨h1, b', hvb⟩, h2, h3⟩ := hr.ob _ _ hbx
    have hbb : b' = b := (hr.own _ _ b' hbx (by rw [hvb]; rfl)).2
    subst hbb
    have hrowA : RowAt N (fun k => F k ∨ (w.heap.size ≤ k ∧ k < w'.heap.size)) w' b' sz e cp (g xs lo n ds).2.2 := ⟨css, by rw [← hvb]; exact h1, h2, fun i d cs g1 g2 => ⟨(h3 i d cs g1 g2).1, (h3 i d cs g1 g2).2.weak (FE_Fr hr)⟩⟩
    unfold resWk at hk
    split at hk
    · rename_i er ew
      rw [ew]
      exact ⟨hr.df.1, _, results_none er _, _, rfl, rfl, hfr, hxl, hrowA⟩
    · rename_i r d er ew
      rw [ew]
      obtain ⟨ds2, vs2, e2, hrun, hl2, hrep⟩ := retA_run hr (bs := [b']) (nt := fn.ntmps) (fun o b h => ⟨0, h.1, by rw [h.2]; rfl⟩) _ _ hk
      obtain ⟨hl3, hrep⟩ := subs_rep ds2 _ vs2 e2 hl2 hrep
      match vs2, hl3, hrun, hrep with
      | [v], _, hrun, hrep =>
        refine ⟨hr.df.1, v, ?_, _, rfl, hrep 0 _ v rfl rfl, hfr, hxl, hrowA⟩
        have hrun' : (fn.results.toList.mapM (resSem a'.tmps)).run P w' = .ok [v] w' := by rw [er]; exact hrun
        rw [results_eq, Array.mapM_eq_mapM_toList]
        simp [hrun']
    · rename_i t lo' n' er ew
      rw [ew]
      have hx := hr.tm t
      rw [hk.1] at hx
      have hrr : st'.row? fn.ntmps = some (sz, e, (g xs lo n ds).2.2) := by unfold St.row?; rw [hbx]
      obtain ⟨A, N', c', A', q1, q2, q3⟩ := hx _ _ _ hrr
      rw [hvb] at q1
      injection q1 with p1 p2 p3
      subst p1 p2 p3
      refine ⟨hr.df.1, a'.tmps.getD t undef, results_one er _ (by simp [resSem]), _, rfl, ?_, hfr, hxl, hrowA⟩
      rw [q2, q3 hk.2]
      simp [WrR, add_plain]
    · exact hk.elim
  cases ee with
  | ret => exact fin hk
  | normal => exact fin hk
  | _ => exact hk.elim
theorem lit_any {F F' : Nat → Prop} {w : World} {d : D} {cs : List Value} (hd : d.isLit = true) (h : Rep N F w d cs) : Rep N F' w d cs := by
  cases d with
  | lit v => cases h with | lit h => exact .lit h
  | _ => cases hd
theorem specO_of {f : FuncId} {fn : Func} {c : Code} {sz : Nat} {e : TypeId} {g : List D → Prop × List D} (hf : P.funcs[f]? = some fn) (hb : fn.body = some c) (hsz : 0 < sz)
    (h : ∀ ds, (g ds).1 → ds.length ≤ fn.ntmps ∧ (g ds).2.all D.isLit = true ∧ Runs N P c (start fn.ntmps (ds.map .dat) []) (endO fn.results.toList sz e (g ds).2)) : SpecO N P f sz e g := by
  intro ds hp F w vs hF hok hvs
  obtain ⟨h1, hlit, h2⟩ := h ds hp
  have key := specM_of' (N := N) (ars := ds.map .dat) (ds := []) (c := c) (K := endO fn.results.toList sz e (g ds).2) hf hb (by simpa using h1) h2 F w [] vs (fun k hk => ⟨hF k hk, by simp⟩) hok List.nodup_nil ⟨rfl, fun i b d h => by simp at h⟩ (by simp [hvs.1]) (fun i x v g1 g2 => by
    rw [List.getElem?_map, Option.map_eq_some_iff] at g1
    obtain ⟨d, hd, rfl⟩ := g1
    exact hvs.2 i d v hd g2) (fun v w' => (∃ css : List (List Value), w'.ownsRow w.heap.size e sz v (g ds).2.length css.flatten ∧ css.length = (g ds).2.length ∧ ∀ (i : Nat) (d : D) (cs : List Value), (g ds).2[i]? = some d → css[i]? = some cs → cs.length = sz ∧ Rep N (fun _ => False) w' d cs) ∧ Frame0 (fun _ => False) w w') (fun ee hv' st' a' w' M0 hM hk hr => ?_)
  · refine key.mono ?_
    rintro ee w' ⟨v, rfl, hv⟩
    exact ⟨v, rfl, hv.1, hv.2⟩
  · have fin : (∃ t o xs, fn.results.toList = [.tmp t] ∧ st'.obj o = some (.row sz e xs) ∧ ((st'.get t = .row o ∧ xs = (g ds).2) ∨ ∃ n, st'.get t = .win o 0 n ∧ n ≤ xs.length ∧ xs.take n = (g ds).2)) → ∃ v, (results fn a'.tmps).run P w' = .ok v w' ∧ (∃ css : List (List Value), w'.ownsRow w.heap.size e sz v (g ds).2.length css.flatten ∧ css.length = (g ds).2.length ∧ ∀ (i : Nat) (d : D) (cs : List Value), (g ds).2[i]? = some d → css[i]? = some cs → cs.length = sz ∧ Rep N (fun _ => False) w' d cs) ∧ Frame0 (fun _ => False) w w' := by
      rintro ⟨t, o, xs, er, hob, hres⟩
      have hfr : Frame0 (fun _ => False) w w' := ⟨hr.bel.os, hr.bel.tape, hr.bel.output, hr.bel.size, fun k hk _ => hr.bel.block k hk (fun hm => by
        obtain ⟨o, hm⟩ := hm
        obtain ⟨i, _, hi⟩ := hM o k hm
        simp at hi)⟩
      refine ⟨a'.tmps.getD t undef, results_one er _ (by simp [resSem]), ?_, hfr⟩
      obtain ⟨css, hown, hcl, hels⟩ := hr.ob _ _ hob
      have hge : ∀ k, blkOf (hv' o) = some k → w.heap.size ≤ k := fun k hk => hr.own o _ k hob hk
      have hrr : st'.row? o = some (sz, e, xs) := by unfold St.row?; rw [hob]
      have hx := hr.tm t
      rcases hres with ⟨e1, rfl⟩ | ⟨n, e1, hn, hxs⟩
      · rw [e1] at hx
        rw [hx ⟨_, hrr⟩]
        refine ⟨css, ⟨hown.1, hown.2.imp id (fun ⟨g', cap, cur, q1, q2, q3⟩ => ⟨g', cap, cur, q1, hge g' (by rw [q1]; rfl), q3⟩)⟩, hcl, fun i d cs g1 g2 => ⟨(hels i d cs g1 g2).1, lit_any (List.all_eq_true.1 hlit d (List.mem_of_getElem? g1)) (hels i d cs g1 g2).2⟩⟩
      · rw [e1] at hx
        obtain ⟨A, N', c', A', q1, q2, q3⟩ := hx _ _ _ hrr
        have hlen : (g ds).2.length = n := by rw [← hxs, List.length_take, Nat.min_eq_left hn]
        have hl : ∀ (k : Nat) (cs : List Value), css[k]? = some cs → cs.length = sz := fun k cs hk => by
          have hk' : k < xs.length := by have := (List.getElem?_eq_some_iff.1 hk).1; omega
          exact (hels k xs[k] cs (List.getElem?_eq_getElem hk') hk).1
        have hA' : A' = A := by
          rw [q3 (.inr rfl)]
          cases A with
          | none => rfl
          | some ad => simp [Addr.add]
        rw [q2, hA', Nat.sub_zero]
        have hfl : (css.take n).flatten.length = n * sz := by
          rw [flatten_length (sz := sz)]
          · rw [List.length_take, Nat.min_eq_left (by omega)]
          · intro k cs hk
            rw [List.getElem?_take] at hk
            split at hk
            · exact hl k cs hk
            · cases hk
        refine ⟨css.take n, ⟨by rw [hlen]; exact hfl, ?_⟩, by rw [List.length_take, hlen, Nat.min_eq_left (by omega)], fun i d cs g1 g2 => ?_⟩
        · rcases hown.2 with ⟨hv0, hz⟩ | ⟨g', cap, cur, hvv, q4, hg, hnc, hcm, hcs, htake⟩
          · rw [q1] at hv0
            injection hv0 with z1 z2 z3
            subst z1 z3
            left
            have : n = 0 := by omega
            exact ⟨by rw [this], by rw [hlen, this]⟩
          · rw [q1] at hvv
            injection hvv with z1 z2 z3
            subst z1 z2 z3
            right
            refine ⟨g', c', cur, by rw [hlen], hge g' (by rw [q1]; rfl), hg, by omega, hcm, hcs, ?_⟩
            rw [hlen]
            have h5 : css.flatten = (css.take n).flatten ++ (css.drop n).flatten := by rw [← List.flatten_append, List.take_append_drop]
            have h6 : n * sz ≤ xs.length * sz := Nat.mul_le_mul_right _ hn
            have h7 : (cur.toList.take (xs.length * sz)).take (n * sz) = cur.toList.take (n * sz) := by rw [List.take_take, Nat.min_eq_left h6]
            rw [← h7, htake, h5, ← hfl, List.take_left]
        · have hi : i < n := by have := (List.getElem?_eq_some_iff.1 g1).1; omega
          rw [← hxs, List.getElem?_take_of_lt hi] at g1
          rw [List.getElem?_take_of_lt hi] at g2
          have hmem : d ∈ (g ds).2 := by rw [← hxs]; exact List.mem_of_getElem? (by rw [List.getElem?_take_of_lt hi]; exact g1)
          exact ⟨(hels i d cs g1 g2).1, lit_any (List.all_eq_true.1 hlit d hmem) (hels i d cs g1 g2).2⟩
    cases ee with
    | ret => exact ⟨.inl rfl, hr.df.1, fin hk⟩
    | normal => exact ⟨.inr rfl, hr.df.1, fin hk⟩
    | _ => exact hk.elim
end
end Go.Proofs.Ytpggfnggffedlaa.Ae

namespace Go.Proofs.Ytpggfnggffedlaa.Ae
open Go Go.RowKit
section
variable {P : Program} {mf : FuncId → Bool} {tb : FuncId → Option Ct} {st : St}
def LeT : List X → List X → Prop
  | [], [] => True
  | x :: a, y :: b => (y = .any ∨ x = y) ∧ LeT a b
  | _, _ => False
theorem ren_id (x : X) : x.ren (fun o => o) = x := by
  cases x <;> try rfl
  rename_i rs
  simp only [X.ren]
  congr 1
  induction rs with
  | nil => rfl
  | cons r rs ih => rw [List.map_cons, ih]; cases r <;> rfl
theorem leT_len : ∀ (a b : List X), LeT a b → b.length = a.length
  | [], [], _ => rfl
  | x :: a, y :: b, h => by simp [leT_len a b h.2]
  | [], _ :: _, h => h.elim
  | _ :: _, [], h => h.elim
theorem leT_get : ∀ (a b : List X), LeT a b → ∀ t, b.getD t .any = .any ∨ a.getD t .any = b.getD t .any
  | [], [], _, t => .inl rfl
  | x :: a, y :: b, h, 0 => h.1
  | x :: a, y :: b, h, t + 1 => by simpa using leT_get a b h.2 t
  | [], _ :: _, h, _ => h.elim
  | _ :: _, [], h, _ => h.elim
theorem snd_of {s s' : St} (h : LeT s.tm s'.tm) (ho : s'.ob = s.ob) : Snd s s' :=
  Le.snd (ρ := fun o => o) ⟨leT_len _ _ h, fun t => by
    rcases leT_get _ _ h t with e | e
    · exact .inl e
    · right; rw [ren_id]; exact e, fun o ob hd => by unfold St.obj at *; rw [← ho]; exact hd, fun _ _ _ => rfl, fun _ _ _ _ _ _ => rfl, fun _ _ _ _ _ _ e => e⟩
end
end Go.Proofs.Ytpggfnggffedlaa.Ae
