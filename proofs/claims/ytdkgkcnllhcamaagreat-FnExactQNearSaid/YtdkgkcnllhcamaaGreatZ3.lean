/- Texts put together, in the order in which they build: L0, L1, L2, L3, L4, L5, L6, L7, LA, L8, LB, L9, L10, L11, L12, M2, L13, L14, L15, L16, L20, L21, L22, L23, L24, L25, L26. No condition. -/
import Derived.Test.YtdkgkcnllhcamaaGreatZ2
import Derived.Laws.Strings
set_option linter.unusedVariables false
set_option linter.unusedSimpArgs false
/-! The words of our readings: steps for simp, digits as data, contracts, loops. No condition. -/
namespace Go.Proofs.YtdkgkcnllhcamaaGreat.Ae
open Go Go.RowKit Go.Proofs.YtdkgkcnllhcamaaGreat.Dig

/-! Steps for simp: what comes behind is looked at when it is its turn. -/
section
variable {P : Program} {mf : FuncId → Bool} {tb : FuncId → Option Ct}
def nf (s : St) : St := s
@[simp] theorem nf_mk (tm : List X) (ob : List (Option Ob)) : nf ⟨tm, ob⟩ = ⟨tm, ob⟩ := rfl
def Kseq (P : Program) (mf : FuncId → Bool) (tb : FuncId → Option Ct) (y : Code) (K : Exit → St → Prop) : Exit → St → Prop := fun e s => match e with
  | .normal => awp P mf tb y s K
  | e => K e s
def Kblk (i : Nat) (K : Exit → St → Prop) : Exit → St → Prop := fun e s => match e with
  | .exit j => if j = i then K .normal s else K (.exit j) s
  | e => K e s
def Knrm (K : Exit → St → Prop) : St → Prop := fun s => K .normal s
def Kops (P : Program) (mf : FuncId → Bool) (tb : FuncId → Option Ct) (ops : Array Oper) (l : List Oper) (K : St → Prop) : St → Prop := fun s => aops P mf tb ops l s K
def Klp (KN : St → Prop) (K : Exit → St → Prop) : Exit → St → Prop := fun e s => match e with
  | .normal => KN s
  | e => K e s
@[simp] theorem kseq_n {y : Code} {K : Exit → St → Prop} {s : St} : Kseq P mf tb y K .normal s = awp P mf tb y (nf s) K := rfl
@[simp] theorem kseq_e {y : Code} {K : Exit → St → Prop} {i : Nat} {s : St} : Kseq P mf tb y K (.exit i) s = K (.exit i) s := rfl
@[simp] theorem kseq_r {y : Code} {K : Exit → St → Prop} {s : St} : Kseq P mf tb y K .ret s = K .ret s := rfl
@[simp] theorem kblk_n {i : Nat} {K : Exit → St → Prop} {s : St} : Kblk i K .normal s = K .normal s := rfl
@[simp] theorem kblk_e {i j : Nat} {K : Exit → St → Prop} {s : St} : Kblk i K (.exit j) s = if j = i then K .normal s else K (.exit j) s := rfl
@[simp] theorem kblk_r {i : Nat} {K : Exit → St → Prop} {s : St} : Kblk i K .ret s = K .ret s := rfl
@[simp] theorem knrm {K : Exit → St → Prop} {s : St} : Knrm K s = K .normal s := rfl
@[simp] theorem kops {ops : Array Oper} {l : List Oper} {K : St → Prop} {s : St} : Kops P mf tb ops l K s = aops P mf tb ops l (nf s) K := rfl
@[simp] theorem klp_n {KN : St → Prop} {K : Exit → St → Prop} {s : St} : Klp KN K .normal s = KN s := rfl
@[simp] theorem klp_e {KN : St → Prop} {K : Exit → St → Prop} {i : Nat} {s : St} : Klp KN K (.exit i) s = K (.exit i) s := rfl
@[simp] theorem klp_r {KN : St → Prop} {K : Exit → St → Prop} {s : St} : Klp KN K .ret s = K .ret s := rfl
def fin (r : Out) (d : Option Nat) (s : St) (k : St → Prop) : Prop := r.pre ∧ k (s.apply d r)
def gstep (P : Program) (mf : FuncId → Bool) (tb : FuncId → Option Ct) (g : Gd) (o : Oper) (s : St) (k : St → Prop) : Prop := match g with
  | .go => fin (aop P mf tb s o) o.dst s k
  | .no => k (s.put o.dst .und)
  | .test t c b => (c = b → fin (aop P mf tb (s.put (some t) (.dat (.lit (.bool b)))) o) o.dst (s.put (some t) (.dat (.lit (.bool b)))) k) ∧ (c = !b → k ((s.put (some t) (.dat (.lit (.bool (!b))))).put o.dst .und))
  | .bad => False
def condm (P : Program) (mf : FuncId → Bool) (tb : FuncId → Option Ct) (v : X) (c : Operand) (x y : Code) (s : St) (k : Exit → St → Prop) : Prop := match v with
  | .dat (.lit (.bool v)) => (v = true → awp P mf tb x (refineC s c true) k) ∧ (v = false → awp P mf tb y (refineC s c false) k)
  | _ => False
@[congr] theorem awp_cg2 {c : Code} {K : Exit → St → Prop} {s s' : St} (h : s = s') : awp P mf tb c s K = awp P mf tb c s' K := by rw [h]
@[congr] theorem aops_cg2 {ops : Array Oper} {l : List Oper} {K : St → Prop} {s s' : St} (h : s = s') : aops P mf tb ops l s K = aops P mf tb ops l s' K := by rw [h]
@[congr] theorem fin_cg {r r' : Out} {d : Option Nat} {s : St} {k : St → Prop} (h : r = r') : fin r d s k = fin r' d s k := by rw [h]
@[congr] theorem gstep_cg {g g' : Gd} {o : Oper} {s : St} {k : St → Prop} (h : g = g') : gstep P mf tb g o s k = gstep P mf tb g' o s k := by rw [h]
@[congr] theorem condm_cg {v v' : X} {c : Operand} {x y : Code} {s : St} {k : Exit → St → Prop} (h : v = v') : condm P mf tb v c x y s k = condm P mf tb v' c x y s k := by rw [h]

@[simp] theorem w_skip {s : St} {K : Exit → St → Prop} : awp P mf tb .skip s K = K .normal s := rfl
@[simp] theorem w_exit {s : St} {i : Nat} {K : Exit → St → Prop} : awp P mf tb (.exit i) s K = K (.exit i) s := rfl
@[simp] theorem w_ret {s : St} {K : Exit → St → Prop} : awp P mf tb .ret s K = K .ret s := rfl
@[simp] theorem w_seq {x y : Code} {s : St} {K : Exit → St → Prop} : awp P mf tb (.seq x y) s K = awp P mf tb x (nf s) (Kseq P mf tb y K) := rfl
@[simp] theorem w_block {x : Code} {i : Nat} {s : St} {K : Exit → St → Prop} : awp P mf tb (.block i x) s K = awp P mf tb x (nf s) (Kblk i K) := rfl
@[simp] theorem w_cond {c : Operand} {x y : Code} {s : St} {K : Exit → St → Prop} : awp P mf tb (.cond c x y) s K = condm P mf tb (ev s c) c x y s K := rfl
/-- Rows may come up here. -/
def fresh (l : List Nat) (tm : List X) : Prop := l = [] ∨ NoRefs l tm
@[simp] theorem fresh_nil {tm : List X} : fresh [] tm = True := by simp [fresh]
@[simp] theorem fresh_cons {a : Nat} {l : List Nat} {tm : List X} : fresh (a :: l) tm = NoRefs (a :: l) tm := by simp [fresh]
def regn (P : Program) (mf : FuncId → Bool) (tb : FuncId → Option Ct) (p : Prop) (ops : Array Oper) (l : List Oper) (s : St) (K : St → Prop) : Prop := p ∧ aops P mf tb ops l s K
@[congr] theorem regn_cg {p p' : Prop} {ops : Array Oper} {l : List Oper} {s : St} {K : St → Prop} (h : p = p') : regn P mf tb p ops l s K = regn P mf tb p' ops l s K := by rw [h]
@[simp] theorem regn_true {ops : Array Oper} {l : List Oper} {s : St} {K : St → Prop} : regn P mf tb True ops l s K = aops P mf tb ops l (nf s) K := by simp [regn, nf]
@[simp] theorem w_region {i : Nat} {l : List Oper} {d : Bool} {s : St} {K : Exit → St → Prop} : awp P mf tb (.region i l.toArray d) s K = regn P (mfR mf i) tb (fresh (mkIds l) s.tm) l.toArray l s (Knrm K) := rfl
@[simp] theorem a_nil {ops : Array Oper} {s : St} {K : St → Prop} : aops P mf tb ops [] s K = K s := rfl
@[simp] theorem a_cons {ops : Array Oper} {o : Oper} {l : List Oper} {s : St} {K : St → Prop} : aops P mf tb ops (o :: l) s K = gstep P mf tb (gd ops s o) o s (Kops P mf tb ops l K) := by
  show astep P mf tb ops o s _ = _
  unfold astep gstep
  cases gd ops s o <;> rfl
@[simp] theorem g_go {o : Oper} {s : St} {k : St → Prop} : gstep P mf tb .go o s k = fin (aop P mf tb s o) o.dst s k := rfl
@[simp] theorem g_no {o : Oper} {s : St} {k : St → Prop} : gstep P mf tb .no o s k = k (s.put o.dst .und) := rfl
@[simp] theorem g_tt {t : Nat} {o : Oper} {s : St} {k : St → Prop} : gstep P mf tb (.test t true true) o s k = fin (aop P mf tb (s.put (some t) (.dat (.lit (.bool true)))) o) o.dst (s.put (some t) (.dat (.lit (.bool true)))) k := by simp [gstep]
@[simp] theorem g_ff {t : Nat} {o : Oper} {s : St} {k : St → Prop} : gstep P mf tb (.test t false false) o s k = fin (aop P mf tb (s.put (some t) (.dat (.lit (.bool false)))) o) o.dst (s.put (some t) (.dat (.lit (.bool false)))) k := by simp [gstep]
@[simp] theorem g_tf {t : Nat} {o : Oper} {s : St} {k : St → Prop} : gstep P mf tb (.test t true false) o s k = k ((s.put (some t) (.dat (.lit (.bool true)))).put o.dst .und) := by simp [gstep]
@[simp] theorem g_ft {t : Nat} {o : Oper} {s : St} {k : St → Prop} : gstep P mf tb (.test t false true) o s k = k ((s.put (some t) (.dat (.lit (.bool false)))).put o.dst .und) := by simp [gstep]
@[simp low] theorem g_test {t : Nat} {c b : Bool} {o : Oper} {s : St} {k : St → Prop} : gstep P mf tb (.test t c b) o s k = ((c = b → fin (aop P mf tb (s.put (some t) (.dat (.lit (.bool b)))) o) o.dst (s.put (some t) (.dat (.lit (.bool b)))) k) ∧ (c = !b → k ((s.put (some t) (.dat (.lit (.bool (!b))))).put o.dst .und))) := rfl
@[simp] theorem c_t {c : Operand} {x y : Code} {s : St} {k : Exit → St → Prop} : condm P mf tb (.dat (.lit (.bool true))) c x y s k = awp P mf tb x (nf (refineC s c true)) k := by simp [condm, nf]
@[simp] theorem c_f {c : Operand} {x y : Code} {s : St} {k : Exit → St → Prop} : condm P mf tb (.dat (.lit (.bool false))) c x y s k = awp P mf tb y (nf (refineC s c false)) k := by simp [condm, nf]
@[simp low] theorem c_v {v : Bool} {c : Operand} {x y : Code} {s : St} {k : Exit → St → Prop} : condm P mf tb (.dat (.lit (.bool v))) c x y s k = ((v = true → awp P mf tb x (nf (refineC s c true)) k) ∧ (v = false → awp P mf tb y (nf (refineC s c false)) k)) := rfl
@[simp] theorem f_t {x : X} {up : List (Nat × Option Ob)} {d : Nat} {tm : List X} {ob : List (Option Ob)} {k : St → Prop} : fin ⟨True, x, up⟩ (some d) ⟨tm, ob⟩ k = k (nf ⟨sX tm d x, St.ups ob up⟩) := by simp [fin, nf, St.apply, St.put, sX]
@[simp] theorem f_n {x : X} {up : List (Nat × Option Ob)} {tm : List X} {ob : List (Option Ob)} {k : St → Prop} : fin ⟨True, x, up⟩ none ⟨tm, ob⟩ k = k (nf ⟨tm, St.ups ob up⟩) := by simp [fin, nf, St.apply, St.put]
@[simp] theorem f_F {x : X} {up : List (Nat × Option Ob)} {d : Option Nat} {s : St} {k : St → Prop} : fin ⟨False, x, up⟩ d s k = False := by simp [fin]
@[simp low] theorem f_p {p : Prop} {x : X} {up : List (Nat × Option Ob)} {d : Nat} {tm : List X} {ob : List (Option Ob)} {k : St → Prop} : fin ⟨p, x, up⟩ (some d) ⟨tm, ob⟩ k = (p ∧ k (nf ⟨sX tm d x, St.ups ob up⟩)) := by simp [fin, nf, St.apply, St.put, sX]
@[simp low] theorem f_pn {p : Prop} {x : X} {up : List (Nat × Option Ob)} {tm : List X} {ob : List (Option Ob)} {k : St → Prop} : fin ⟨p, x, up⟩ none ⟨tm, ob⟩ k = (p ∧ k (nf ⟨tm, St.ups ob up⟩)) := by simp [fin, nf, St.apply, St.put]
@[simp] theorem s_get {tm : List X} {ob : List (Option Ob)} {t : Nat} : St.get ⟨tm, ob⟩ t = gX tm t := rfl
@[simp] theorem s_obj {tm : List X} {ob : List (Option Ob)} {o : Nat} : St.obj ⟨tm, ob⟩ o = gO ob o := rfl
@[simp] theorem s_put {tm : List X} {ob : List (Option Ob)} {t : Nat} {x : X} : St.put ⟨tm, ob⟩ (some t) x = ⟨sX tm t x, ob⟩ := rfl
@[simp] theorem s_putn {tm : List X} {ob : List (Option Ob)} {x : X} : St.put ⟨tm, ob⟩ none x = ⟨tm, ob⟩ := rfl
@[simp] theorem ups_n {ob : List (Option Ob)} : St.ups ob [] = ob := rfl
@[simp] theorem ups_c {ob : List (Option Ob)} {p : Nat × Option Ob} {l : List (Nat × Option Ob)} : St.ups ob (p :: l) = St.ups (sO ob p.1 p.2) l := rfl
@[simp] theorem ev_tmp (st : St) (t : Nat) : ev st (.tmp t) = st.get t := rfl
@[simp] theorem ev_int (st : St) (k : IntKind) (n : Int) : ev st (.const (.int k n)) = .dat (.lit (.int k n)) := by simp [ev, Value.oneCell']
@[simp] theorem ev_str (st : St) (s : ByteArray) : ev st (.const (.string s)) = .dat (.lit (.string s)) := by simp [ev, Value.oneCell']
@[simp] theorem ev_bool (st : St) (b : Bool) : ev st (.const (.bool b)) = .dat (.lit (.bool b)) := by simp [ev, Value.oneCell']
@[simp] theorem ev_nils (st : St) : ev st (.const (.slice none 0 0)) = .dat (.lit (.slice none 0 0)) := by simp [ev, Value.oneCell']
@[simp] theorem ev_nilp (st : St) : ev st (.const (.pointer none)) = .dat (.lit (.pointer none)) := by simp [ev, Value.oneCell']
@[simp] theorem ev_agg (st : St) (l : List Value) : ev st (.const (.agg l.toArray)) = if l.all Value.oneCell' = true then .dat (.agg (l.map .lit)) else .any := by simp [ev]
end
/-! Operations, one step each -/
def ix (xs : List D) (i : Nat) : Option D := xs[i]?
def lset (xs : List D) (i : Nat) (d : D) : List D := xs.set i d
def lsub (xs : List D) (lo hi : Nat) : List D := (xs.take hi).drop lo
def lwin (xs : List D) (lo n : Nat) : List D := (xs.drop lo).take n
section
variable {P : Program} {mf : FuncId → Bool} {tb : FuncId → Option Ct} {st : St} {d : Option Nat} {ty : TypeId} {pos : String} {af : Array Edge} {g : Option (Nat × Bool)}
def convA (P : Program) (a b : TypeId) (x : X) : Out := match P.underlying a, P.underlying b, x with
    | some _, some (.int k), .dat (.lit (.int _ n)) => .lit (.int k (k.wrap n))
    | _, _, _ => .bad
def nilA : X → Out
    | .obj ob p off => ⟨True, .obj ob p off, []⟩
    | .dat (.ptr d) => ⟨True, .dat (.ptr d), []⟩
    | _ => .bad
def boxA (st : St) (d : Option Nat) (x : X) : Out := match x, d with
    | .dat d, some s => ⟨st.obj s = none ∧ s < st.ob.length, .obj s [] 0, [(s, some (.box d))]⟩
    | _, _ => .bad
def allocA (P : Program) (st : St) (d : Option Nat) (t : TypeId) : Out := match (P.info? t).bind (·.zero), d with
    | some v, some s => ⟨(st.obj s = none ∧ s < st.ob.length) ∧ litOk P t v, .obj s [] 0, [(s, some (.box (litD P t v)))]⟩
    | _, _ => .bad
def fieldA (P : Program) (s : TypeId) (i : Nat) (x : X) : Out := match P.underlying s with
    | some (.struct fs) => match fs[i]? with
      | some f => match x with
        | .obj ob p off => ⟨P.cellsOf f.type ≠ 0, .obj ob (p ++ [i]) (off + f.offset), []⟩
        | .elt ob j p off => ⟨P.cellsOf f.type ≠ 0, .elt ob j (p ++ [i]) (off + f.offset), []⟩
        | .dat (.ptr (.agg ds)) => match ds[i]? with
          | some d => ⟨P.cellsOf f.type ≠ 0 ∧ f.offset = D.sizes (ds.take i), .dat (.ptr d), []⟩
          | none => .bad
        | _ => .bad
      | none => .bad
    | _ => .bad
def loadA (P : Program) (st : St) (t : TypeId) (x : X) : Out := match x with
    | .obj ob p off => match st.box? ob with
        | some d => match nav d p with
          | some (e, off') => ⟨off' = off ∧ P.cellsOf t = e.size ∧ isAggT P t = e.isAgg ∧ (P.underlying t).isSome ∧ (P.info? t).isSome, .dat e, []⟩
          | none => .bad
        | none => .bad
    | .elt ob j p off => match st.row? ob with
      | some (sz, _, xs) => match ix xs j with
        | some d => match nav d p with
          | some (e, off') => ⟨d.size = sz ∧ off' = off ∧ P.cellsOf t = e.size ∧ isAggT P t = e.isAgg ∧ (P.underlying t).isSome ∧ (P.info? t).isSome, .dat e, []⟩
          | none => .bad
        | none => .bad
      | none => .bad
    | .dat (.ptr d) => ⟨P.cellsOf t = d.size ∧ isAggT P t = d.isAgg ∧ (P.underlying t).isSome ∧ (P.info? t).isSome, .dat d, []⟩
    | _ => .bad
def storeA (P : Program) (st : St) (t : TypeId) (a v : X) : Out := match a, v with
    | .obj ob p off, .dat x => match st.wbox? ob with
      | some d => match nav d p with
        | some (e, off') => ⟨off' = off ∧ x.size = e.size ∧ P.cellsOf t = x.size ∧ (P.info? t).isSome, .und, [(ob, setBox (st.obj ob) (upd d p x))]⟩
        | none => .bad
      | _ => .bad
    | .elt ob j p off, .dat x => match st.obj ob with
      | some (.row sz e xs) => match ix xs j with
        | some d => match nav d p with
          | some (e', off') => ⟨d.size = sz ∧ off' = off ∧ x.size = e'.size ∧ P.cellsOf t = x.size ∧ (P.info? t).isSome, .und, [(ob, some (.row sz e (lset xs j (upd d p x))))]⟩
          | none => .bad
        | none => .bad
      | some (.prow sz e cp xs) => match ix xs j with
        | some d => match nav d p with
          | some (e', off') => ⟨d.size = sz ∧ off' = off ∧ x.size = e'.size ∧ P.cellsOf t = x.size ∧ (P.info? t).isSome, .und, [(ob, some (.prow sz e cp (lset xs j (upd d p x))))]⟩
          | none => .bad
        | none => .bad
      | _ => .bad
    | _, _ => .bad
def buildX (P : Program) (mf : FuncId → Bool) (st : St) (t : TypeId) (is : List Nat) (xs : List X) : Out := match mf (bld t) with
    | false => match datas xs with
      | some ds => ⟨(buildA P t is ds).1, .dat (buildA P t is ds).2, []⟩
      | none => .bad
    | true => match asDatas st xs with
      | some ps => ⟨(buildA P t is (ps.map (·.1))).1 ∧ allFreeze st (owners ps), .dat (buildA P t is (ps.map (·.1))).2, freezes st (owners ps)⟩
      | none => .bad
def extrA (i : Nat) (x : X) : Out := match x with
    | .tup rs => match rs[i]? with
      | some r => ⟨True, r.x, []⟩
      | none => .bad
    | _ => .bad
def idxA (P : Program) (st : St) (t : TypeId) (x i : X) : Out := match P.underlying t, i with
    | some (.slice e), .dat (.lit (.int _ n)) => match x with
      | .dat (.sl sz xs) => match ix xs n.toNat with
        | some d => ⟨0 ≤ n ∧ P.cellsOf e = sz ∧ (P.info? e).isSome, .dat (.ptr d), []⟩
        | none => .bad
      | .row ob => match st.row? ob with
        | some (sz, _, xs) => ⟨(0 ≤ n ∧ n < xs.length) ∧ P.cellsOf e = sz ∧ (P.info? e).isSome, .elt ob n.toNat [] 0, []⟩
        | none => .bad
      | .win ob lo m => match st.row? ob with
        | some (sz, _, xs) => ⟨(0 ≤ n ∧ n < m) ∧ lo + m ≤ xs.length ∧ P.cellsOf e = sz ∧ (P.info? e).isSome, .elt ob (lo + n.toNat) [] 0, []⟩
        | none => .bad
      | _ => .bad
    | some (.array m e), .dat (.lit (.int _ n)) => match x with
      | .obj ob p off => ⟨(0 ≤ n ∧ n < m) ∧ (P.info? e).isSome, .obj ob (p ++ [n.toNat]) (off + n.toNat * P.cellsOf e), []⟩
      | .elt ob j p off => ⟨(0 ≤ n ∧ n < m) ∧ (P.info? e).isSome, .elt ob j (p ++ [n.toNat]) (off + n.toNat * P.cellsOf e), []⟩
      | .dat (.ptr (.agg ds)) => match ds[n.toNat]? with
        | some d => ⟨(0 ≤ n ∧ n < m) ∧ (P.info? e).isSome ∧ n.toNat * P.cellsOf e = D.sizes (ds.take n.toNat), .dat (.ptr d), []⟩
        | none => .bad
      | _ => .bad
    | _, _ => .bad
def sliceX (P : Program) (st : St) (t : TypeId) (x : X) (lo hi : Option X) : Out := match P.underlying t, loB lo with
  | some (.slice e), some l => match x with
    | .dat (.sl sz xs) => match hiB xs.length hi with
      | some h => ⟨(0 ≤ l ∧ l ≤ h ∧ h ≤ xs.length) ∧ (P.info? e).isSome ∧ P.cellsOf e = sz, .dat (.sl sz (lsub xs l.toNat h.toNat)), []⟩
      | none => .bad
    | .row ob => match st.row? ob with
      | some (sz, _, xs) => match hiB xs.length hi with
        | some h => ⟨(0 ≤ l ∧ l ≤ h ∧ h ≤ xs.length) ∧ (P.info? e).isSome ∧ P.cellsOf e = sz, .win ob l.toNat (h - l).toNat, []⟩
        | none => .bad
      | none => .bad
    | .win ob k n => match st.row? ob with
      | some (sz, _, xs) => match hiB n hi with
        | some h => ⟨(0 ≤ l ∧ l ≤ h ∧ h ≤ n) ∧ k + n ≤ xs.length ∧ (P.info? e).isSome ∧ P.cellsOf e = sz, .win ob (k + l.toNat) (h - l).toNat, []⟩
        | none => .bad
      | none => .bad
    | _ => .bad
  | _, _ => .bad
def mkSl (P : Program) (st : St) (d : Option Nat) (t : TypeId) (l c : X) : Out := match d with
    | some k => match P.underlying t, l, c with
      | some (.slice e), .dat (.lit (.int _ n)), .dat (.lit (.int _ m)) => match (P.info? e).bind (·.zero) with
        | some z => ⟨(0 ≤ n ∧ n ≤ m) ∧ P.bytesOf e * m ≤ 140737488355328 ∧ m ≤ 9223372036854775807 ∧ z.cells.size = P.cellsOf e ∧ 0 < P.cellsOf e ∧ litOk P e z ∧ st.obj k = none ∧ k < st.ob.length,
            .row k, [(k, some (.row (P.cellsOf e) e (List.replicate n.toNat (litD P e z))))]⟩
        | none => .bad
      | _, _, _ => .bad
    | none => .bad
def bdSl (P : Program) (st : St) (d : Option Nat) (t : TypeId) (n : Nat) (is : List Nat) (xs : List X) : Out := match d with
    | some k => match P.underlying t, datas xs with
      | some (.slice e), some ds => match is with
        | [] => ⟨n = 0 ∧ (P.info? e).isSome ∧ st.obj k = none ∧ k < st.ob.length, .row k, [(k, some (.row (P.cellsOf e) e []))]⟩
        | _ :: _ => ⟨0 < n ∧ is = List.range n ∧ (∀ d ∈ ds, d.size = P.cellsOf e) ∧ n * P.cellsOf e ≤ 16777216 ∧ (∃ z, (P.info? e).bind (·.zero) = some z) ∧ 0 < P.cellsOf e, .dat (.sl (P.cellsOf e) ds), []⟩
      | _, _ => .bad
    | none => .bad
@[simp] theorem o_move {x : Operand} : aop P mf tb st ⟨d, .move x, ty, pos, af, g⟩ = ⟨True, ev st x, []⟩ := rfl
@[simp] theorem o_assign {x : Operand} : aop P mf tb st ⟨d, .assign x, ty, pos, af, g⟩ = ⟨True, ev st x, []⟩ := rfl
@[simp] theorem o_pick {c a b : Operand} : aop P mf tb st ⟨d, .pick c a b, ty, pos, af, g⟩ = pickA (ev st c) (ev st a) (ev st b) := rfl
@[simp] theorem o_bin {op : BinOp} {t t' : TypeId} {x y : Operand} : aop P mf tb st ⟨d, .binOp op t x y t', ty, pos, af, g⟩ = binA P op t (ev st x) (ev st y) := rfl
@[simp] theorem o_un {op : UnOp} {t : TypeId} {x : Operand} : aop P mf tb st ⟨d, .unOp op t x, ty, pos, af, g⟩ = unA op (ev st x) := rfl
@[simp] theorem o_conv {a b : TypeId} {x : Operand} : aop P mf tb st ⟨d, .convert a b x, ty, pos, af, g⟩ = convA P a b (ev st x) := rfl
@[simp] theorem o_index {t : TypeId} {x i : Operand} : aop P mf tb st ⟨d, .index t x i, ty, pos, af, g⟩ = strIdx P (P.underlying t) (ev st x) (ev st i) := rfl
@[simp] theorem o_nil {x : Operand} : aop P mf tb st ⟨d, .nilCheck x, ty, pos, af, g⟩ = nilA (ev st x) := rfl
@[simp] theorem o_box {t : TypeId} {x : Operand} : aop P mf tb st ⟨d, .box t x, ty, pos, af, g⟩ = boxA st d (ev st x) := rfl
@[simp] theorem o_alloc {t : TypeId} : aop P mf tb st ⟨d, .alloc t, ty, pos, af, g⟩ = allocA P st d t := rfl
@[simp] theorem o_field {s : TypeId} {a : Operand} {i : Nat} : aop P mf tb st ⟨d, .fieldAddr s a i, ty, pos, af, g⟩ = fieldA P s i (ev st a) := rfl
@[simp] theorem o_load {t : TypeId} {a : Operand} : aop P mf tb st ⟨d, .load t a, ty, pos, af, g⟩ = barIf (fl mf (ev st a)) (loadA P st t (ev st a)) := rfl
@[simp] theorem o_store {t : TypeId} {a v : Operand} : aop P mf tb st ⟨d, .store t a v, ty, pos, af, g⟩ = barIf (lateBad mf a (ev st a)) (storeA P st t (ev st a) (ev st v)) := rfl
@[simp] theorem o_build {t : TypeId} {l : List (Nat × Operand)} : aop P mf tb st ⟨d, .build t l.toArray, ty, pos, af, g⟩ = buildX P mf st t (l.map (·.1)) (l.map fun p => ev st p.2) := rfl
@[simp] theorem o_extr {i : Nat} {x : Operand} : aop P mf tb st ⟨d, .extract x i, ty, pos, af, g⟩ = extrA i (ev st x) := rfl
@[simp] theorem o_idx {t : TypeId} {x i : Operand} : aop P mf tb st ⟨d, .indexAddr t x i, ty, pos, af, g⟩ = barIf (fl mf (ev st x)) (idxA P st t (ev st x) (ev st i)) := by
  show barIf _ (match P.underlying t, ev st i with | some (.slice e), .dat (.lit (.int _ n)) => _ | some (.array m e), .dat (.lit (.int _ n)) => _ | _, _ => _) = _
  rfl
@[simp] theorem o_slice {t : TypeId} {x : Operand} {lo hi : Option Operand} : aop P mf tb st ⟨d, .slice t x lo hi none, ty, pos, af, g⟩ = barIf (fl mf (ev st x)) (sliceX P st t (ev st x) (lo.map (ev st)) (hi.map (ev st))) := rfl
@[simp] theorem o_make {t : TypeId} {l c : Operand} : aop P mf tb st ⟨d, .makeSlice t l c, ty, pos, af, g⟩ = mkSl P st d t (ev st l) (ev st c) := rfl
@[simp] theorem o_bsl {t : TypeId} {n : Nat} {l : List (Nat × Operand)} : aop P mf tb st ⟨d, .buildSlice t n l.toArray, ty, pos, af, g⟩ = bdSl P st d t n (l.map (·.1)) (l.map fun p => ev st p.2) := by
  show (match d with | some k => _ | none => _) = _
  unfold bdSl
  cases d with
  | none => rfl
  | some k =>
    simp only []
    cases l with
    | nil => rfl
    | cons p l => rfl
def lenX (P : Program) (st : St) (t : TypeId) (x : X) : Out := match P.underlying t with
  | some (.slice _) => lenA st x
  | _ => .bad
def callB (st : St) (r : Prop × List D) (ps : List (D × Option Nat)) : Out := match r.2.all D.isLit with
  | true => ⟨r.1, resX r.2, []⟩
  | false => ⟨r.1 ∧ allFreeze st (owners ps), resX r.2, freezes st (owners ps)⟩
def callM (st : St) (r : Prop × List Rv × List D) (ids : List Nat) (ps : List (Ar × Option Nat)) (n : Nat) : Out :=
  ⟨r.1 ∧ ids.Nodup ∧ r.2.2.length = n ∧ allFreeze st (owners ps), resM ids r.2.1, freezes st (owners ps) ++ setBoxes st ids r.2.2⟩
def callWB (st : St) (sz sz' : Nat) (e e' : TypeId) (l : List D) (r : Prop × Option Wr × List D) (o lo n : Nat) (ps : List (D × Option Nat)) : Out :=
  ⟨r.1 ∧ sz' = sz ∧ e' = e ∧ 0 < l.length ∧ lo + n ≤ l.length ∧ (0 < n ∨ lo = 0) ∧ r.2.2.length = l.length ∧ o ∉ owners ps ∧ allFreeze st (owners ps),
        resW o r.2.1, freezes st (owners ps) ++ [(o, setRow (st.obj o) r.2.2)]⟩
def callOB (st : St) (sz : Nat) (e : TypeId) (r : Prop × List D) (s : Nat) (ps : List (D × Option Nat)) : Out :=
  ⟨r.1 ∧ allFreeze st (owners ps) ∧ st.obj s = none ∧ s < st.ob.length, .row s, freezes st (owners ps) ++ [(s, some (.row sz e r.2))]⟩
def callX (mf : FuncId → Bool) (c : Option Ct) (st : St) (dst : Option Nat) (f : FuncId) (xs : List X) : Out := match c with
  | some (.data g) => callC (mf f) st g xs
  | some (.win sz e g gd) => match mf f, xs with
    | true, x :: r => match winOf st x with
      | some (o, lo, n) => match asDatas st r with
        | some ps => match st.wrow? o with
          | some (sz', e', l) => callWB st sz sz' e e' l (g l lo n (ps.map (·.1))) o lo n ps
          | none => .bad
        | none => .bad
      | none => callC true st gd (x :: r)
    | true, [] => .bad
    | false, xs => callC false st gd xs
  | some (.own sz e g) => match mf f with
    | true => match dst, asDatas st xs with
      | some s, some ps => callOB st sz e (g (ps.map (·.1))) s ps
      | _, _ => .bad
    | false => .bad
  | some (.mut md g) => match mf f with
    | false => .bad
    | true => match asArs st (refIds xs md) xs, boxesOf st (refIds xs md) with
      | some ps, some ds => callM st (g (ps.map (·.1)) ds) (refIds xs md) ps ds.length
      | _, _ => .bad
  | none => .bad
@[simp] theorem callC_f {g : List D → Prop × List D} {xs : List X} : callC false st g xs = match datas xs with
      | some ds => ⟨(g ds).1, resX (g ds).2, []⟩
      | none => .bad := rfl
@[simp] theorem callC_t {g : List D → Prop × List D} {xs : List X} : callC true st g xs = match asDatas st xs with
      | some ps => callB st (g (ps.map (·.1))) ps
      | none => .bad := by
  unfold callC callB
  simp only []
  cases asDatas st xs with
  | none => rfl
  | some ps => simp only []; cases (g (ps.map (·.1))).2.all D.isLit <;> rfl
@[simp] theorem o_call {f : FuncId} {l : List Operand} {ts : Array TypeId} : aop P mf tb st ⟨d, .call ⟨.value (.func f), l.toArray, ts⟩, ty, pos, af, g⟩ = callX mf (tb f) st d f (l.map (ev st)) := by
  show callA mf tb st d f _ = _
  unfold callA callX callW callWB callM callO callOB
  rcases tb f with _ | ⟨g⟩ | ⟨md, g⟩ | ⟨sz, e, g, gd⟩ | ⟨sz, e, g⟩ <;> simp <;> rfl
@[simp] theorem o_len {x : Operand} {t : TypeId} : aop P mf tb st ⟨d, .call ⟨.builtin .len, [x].toArray, [t].toArray⟩, ty, pos, af, g⟩ = barIf (fl mf (ev st x)) (lenX P st t (ev st x)) := by
  unfold lenX
  simp only [aop, List.getElem?_toArray, List.getElem?_cons_zero, Option.bind_some]
  have hb : ∀ b, barIf b .bad = .bad := fun b => by cases b <;> rfl
  rcases P.underlying t with _ | u
  · exact (hb _).symm
  · cases u <;> first | rfl | exact (hb _).symm
@[simp] theorem o_max {x y : Operand} {ts : Array TypeId} : aop P mf tb st ⟨d, .call ⟨.builtin .max, [x, y].toArray, ts⟩, ty, pos, af, g⟩ = mmA true (ev st x) (ev st y) := rfl
@[simp] theorem o_min {x y : Operand} {ts : Array TypeId} : aop P mf tb st ⟨d, .call ⟨.builtin .min, [x, y].toArray, ts⟩, ty, pos, af, g⟩ = mmA false (ev st x) (ev st y) := rfl
@[simp] theorem o_app {x y : Operand} {t : TypeId} : aop P mf tb st ⟨d, .call ⟨.builtin .append, [x, y].toArray, [t, t].toArray⟩, ty, pos, af, g⟩ = barIf (appBad mf x (ev st x)) (appendA P st d t (ev st x) (ev st y)) := by
  show (if t = t then _ else _) = _
  simp
end
section
variable {mf : FuncId → Bool}
@[simp] theorem fl_any : fl mf .any = false := rfl
@[simp] theorem fl_und : fl mf .und = false := rfl
@[simp] theorem fl_dat {d : D} : fl mf (.dat d) = false := rfl
@[simp] theorem fl_obj {o f : Nat} {p : List Nat} : fl mf (.obj o p f) = mf (cel o) := by simp [fl, X.refs]
@[simp] theorem fl_row {o : Nat} : fl mf (.row o) = mf (cel o) := by simp [fl, X.refs]
@[simp] theorem fl_elt {o i f : Nat} {p : List Nat} : fl mf (.elt o i p f) = mf (cel o) := by simp [fl, X.refs]
@[simp] theorem fl_win {o i f : Nat} : fl mf (.win o i f) = mf (cel o) := by simp [fl, X.refs]
end
/-! Whole numbers, one step each -/
def bAnd (k : IntKind) (x y : Int) : Int := k.wrap (BitVec.ofInt k.bits x &&& BitVec.ofInt k.bits y).toNat
def bOr (k : IntKind) (x y : Int) : Int := k.wrap (BitVec.ofInt k.bits x ||| BitVec.ofInt k.bits y).toNat
def bXor (k : IntKind) (x y : Int) : Int := k.wrap (BitVec.ofInt k.bits x ^^^ BitVec.ofInt k.bits y).toNat
def bAnn (k : IntKind) (x y : Int) : Int := k.wrap (BitVec.ofInt k.bits x &&& ~~~(BitVec.ofInt k.bits y)).toNat
def bNot (k : IntKind) (x : Int) : Int := k.wrap (BitVec.ofInt k.bits (if k.signed then -1 else k.max) ^^^ BitVec.ofInt k.bits x).toNat
section
variable {k : IntKind} {x y : Int}
@[simp] theorem i_add : intOp .add k x y = ⟨True, .dat (.lit (.int k (k.wrap (x + y)))), []⟩ := rfl
@[simp] theorem i_sub : intOp .sub k x y = ⟨True, .dat (.lit (.int k (k.wrap (x - y)))), []⟩ := rfl
@[simp] theorem i_mul : intOp .mul k x y = ⟨True, .dat (.lit (.int k (k.wrap (x * y)))), []⟩ := rfl
@[simp] theorem i_quo : intOp .quo k x y = ⟨y ≠ 0, .dat (.lit (.int k (k.wrap (x.tdiv y)))), []⟩ := rfl
@[simp] theorem i_rem : intOp .rem k x y = ⟨y ≠ 0, .dat (.lit (.int k (x.tmod y))), []⟩ := rfl
@[simp] theorem i_eql : intOp .eql k x y = ⟨True, .dat (.lit (.bool (decide (x = y)))), []⟩ := rfl
@[simp] theorem i_neq : intOp .neq k x y = ⟨True, .dat (.lit (.bool (!decide (x = y)))), []⟩ := rfl
@[simp] theorem i_lss : intOp .lss k x y = ⟨True, .dat (.lit (.bool (decide (x < y)))), []⟩ := rfl
@[simp] theorem i_leq : intOp .leq k x y = ⟨True, .dat (.lit (.bool (decide (x ≤ y)))), []⟩ := rfl
@[simp] theorem i_gtr : intOp .gtr k x y = ⟨True, .dat (.lit (.bool (decide (y < x)))), []⟩ := rfl
@[simp] theorem i_geq : intOp .geq k x y = ⟨True, .dat (.lit (.bool (decide (y ≤ x)))), []⟩ := rfl
@[simp] theorem i_and : intOp .and k x y = ⟨True, .dat (.lit (.int k (bAnd k x y))), []⟩ := rfl
@[simp] theorem i_or : intOp .or k x y = ⟨True, .dat (.lit (.int k (bOr k x y))), []⟩ := rfl
@[simp] theorem i_xor : intOp .xor k x y = ⟨True, .dat (.lit (.int k (bXor k x y))), []⟩ := rfl
@[simp] theorem i_ann : intOp .andNot k x y = ⟨True, .dat (.lit (.int k (bAnn k x y))), []⟩ := rfl
@[simp] theorem i_shl : intOp .shl k x y = ⟨0 ≤ y, .dat (.lit (.int k (k.wrap (x * 2 ^ min y.toNat k.bits)))), []⟩ := rfl
@[simp] theorem i_shr : intOp .shr k x y = ⟨0 ≤ y, .dat (.lit (.int k (x.fdiv (2 ^ min y.toNat k.bits)))), []⟩ := rfl
@[simp] theorem u_neg : unA .neg (.dat (.lit (.int k x))) = ⟨True, .dat (.lit (.int k (k.wrap (0 - x)))), []⟩ := rfl
@[simp] theorem u_xor : unA .xor (.dat (.lit (.int k x))) = ⟨True, .dat (.lit (.int k (bNot k x))), []⟩ := rfl
@[simp] theorem u_not {b : Bool} : unA .not (.dat (.lit (.bool b))) = ⟨True, .dat (.lit (.bool (!b))), []⟩ := rfl
end
theorem toNat_ofInt_nat (w n : Nat) (h : n < 2 ^ w) : (BitVec.ofInt w (n : Int)).toNat = n := by
  rw [BitVec.ofInt_natCast, BitVec.toNat_ofNat, Nat.mod_eq_of_lt h]
theorem bAnd32 (x y : Nat) (hx : x < 4294967296) (hy : y < 4294967296) : bAnd .u32 x y = ((x &&& y : Nat) : Int) := by
  unfold bAnd
  rw [BitVec.toNat_and, toNat_ofInt_nat _ _ hx, toNat_ofInt_nat _ _ hy]
  have := Nat.and_lt_two_pow (n := 32) x hy
  simp only [IntKind.wrap, IntKind.signed, IntKind.bits]; simp; omega
theorem bOr32 (x y : Nat) (hx : x < 4294967296) (hy : y < 4294967296) : bOr .u32 x y = ((x ||| y : Nat) : Int) := by
  unfold bOr
  rw [BitVec.toNat_or, toNat_ofInt_nat _ _ hx, toNat_ofInt_nat _ _ hy]
  have := Nat.or_lt_two_pow (n := 32) hx hy
  simp only [IntKind.wrap, IntKind.signed, IntKind.bits]; simp; omega
theorem bXor32 (x y : Nat) (hx : x < 4294967296) (hy : y < 4294967296) : bXor .u32 x y = ((x ^^^ y : Nat) : Int) := by
  unfold bXor
  rw [BitVec.toNat_xor, toNat_ofInt_nat _ _ hx, toNat_ofInt_nat _ _ hy]
  have := Nat.xor_lt_two_pow (n := 32) hx hy
  simp only [IntKind.wrap, IntKind.signed, IntKind.bits]; simp; omega
theorem bOr64 (x y : Nat) (hx : x < 18446744073709551616) (hy : y < 18446744073709551616) : bOr .u64 x y = ((x ||| y : Nat) : Int) := by
  unfold bOr
  rw [BitVec.toNat_or, toNat_ofInt_nat _ _ hx, toNat_ofInt_nat _ _ hy]
  have := Nat.or_lt_two_pow (n := 64) hx hy
  simp only [IntKind.wrap, IntKind.signed, IntKind.bits]; simp; omega
theorem bAnd64 (x y : Nat) (hx : x < 18446744073709551616) (hy : y < 18446744073709551616) : bAnd .u64 x y = ((x &&& y : Nat) : Int) := by
  unfold bAnd
  rw [BitVec.toNat_and, toNat_ofInt_nat _ _ hx, toNat_ofInt_nat _ _ hy]
  have := Nat.and_lt_two_pow (n := 64) x hy
  simp only [IntKind.wrap, IntKind.signed, IntKind.bits]; simp; omega
theorem bNot32 (x : Nat) (hx : x < 4294967296) : bNot .u32 x = ((4294967295 - x : Nat) : Int) := by
  have e1 : BitVec.ofInt 32 4294967295 = BitVec.allOnes 32 := by decide
  have e : bNot .u32 x = IntKind.u32.wrap ((BitVec.ofInt 32 4294967295 ^^^ BitVec.ofInt 32 (x : Int)).toNat : Int) := rfl
  rw [e, e1, BitVec.allOnes_xor, BitVec.toNat_not, toNat_ofInt_nat _ _ hx]
  simp only [IntKind.wrap, IntKind.signed, IntKind.bits]; simp; omega
@[simp] theorem fdiv_lit (n : Int) (m : Nat) : n.fdiv (no_index (OfNat.ofNat m)) = n / (OfNat.ofNat m) := Int.fdiv_eq_ediv_of_nonneg _ (Int.natCast_nonneg m)

attribute [simp] mfR rcel gd St.box? St.wbox? St.row? St.drow? setBox Out.bad Out.lit nav upd D.size D.sizes nsz nagg isAggT datas resX mkIds mkOp NoRefs X.refs lenA strIdx binA mmA pickA lenX callB callM callWB callOB callX winOf St.wrow? setRow resW convA nilA boxA allocA fieldA loadA storeA buildX extrA idxA sliceX mkSl bdSl RvSubs RvSub BoxSubs refineC loB hiB startAr endK retA resD litD litOk asDatas asData owners freezes freeze allFreeze St.mayFreeze D.isLit refIds asArs boxesOf setBoxes resM resWk endW Rv.to Rv.x buildA partsOk zeros putAll fits appendA elems onto Value.oneCell' bld cel regroup regs rega flatD flatDs lateBad barIf Rv.refs appBad
@[simp] theorem vc_int (k : IntKind) (n : Int) : (Value.int k n).cells = #[.int k n] := rfl
@[simp] theorem vc_bool (b : Bool) : (Value.bool b).cells = #[.bool b] := rfl
@[simp] theorem vc_float (k : FloatKind) (n : Nat) : (Value.float k n).cells = #[.float k n] := rfl
@[simp] theorem vc_string (s : ByteArray) : (Value.string s).cells = #[.string s] := rfl
@[simp] theorem vc_ptr (a : Option Addr) : (Value.pointer a).cells = #[.pointer a] := rfl
@[simp] theorem vc_slice (a : Option Addr) (l c : Nat) : (Value.slice a l c).cells = #[.slice a l c] := rfl
@[simp] theorem vc_map (a : Option Nat) : (Value.map a).cells = #[.map a] := rfl
@[simp] theorem vc_nilFunc : (Value.nilFunc).cells = #[.nilFunc] := rfl
@[simp] theorem vc_nilIface : (Value.nilIface).cells = #[.nilIface] := rfl
@[simp] theorem vc_agg (cs : Array Value) : (Value.agg cs).cells = cs := rfl
@[simp] theorem agg_lit (v : Value) : (D.lit v).isAgg = false := rfl
@[simp] theorem agg_agg (ds : List D) : (D.agg ds).isAgg = true := rfl
@[simp] theorem agg_sl (n : Nat) (ds : List D) : (D.sl n ds).isAgg = false := rfl
@[simp] theorem agg_ptr (d : D) : (D.ptr d).isAgg = false := rfl
@[simp] theorem start_mk (n : Nat) (xs : List Ar) (ds : List D) : start n xs ds = ⟨xs.map (startAr n) ++ nX (n - xs.length), nO n ++ ds.map fun d => some (.pbox d)⟩ := rfl
@[simp] theorem sub_nil (sz : Nat) : Sub (.lit (.slice none 0 0)) (.sl sz []) = True := by simp [Sub.nil]
@[simp] theorem sub_refl (d : D) : Sub d d ↔ True := ⟨fun _ => trivial, fun _ => Sub.refl d⟩

/-- A digit, and data of digits. -/
def dg (k : Nat) : D := .lit (.int .u32 (k : Int))
def eW (ds : List Nat) : D := .sl 1 (ds.map dg)
/-- A number's digits as data. -/
def eM (n : Nat) : D := eW (mag n)
theorem dg_inj {a b : Nat} (h : dg a = dg b) : a = b := by
  unfold dg at h; injection h with h; injection h with _ h; exact Int.ofNat.inj h
theorem map_dg_inj : ∀ {a b : List Nat}, a.map dg = b.map dg → a = b
  | [], [], _ => rfl
  | x :: a, y :: b, h => by
    simp only [List.map_cons, List.cons.injEq] at h
    rw [dg_inj h.1, map_dg_inj h.2]
  | [], _ :: _, h => by simp at h
  | _ :: _, [], h => by simp at h
theorem eW_inj {a b : List Nat} (h : eW a = eW b) : a = b := by
  unfold eW at h; injection h with _ h; exact map_dg_inj h
theorem eM_inj {a b : Nat} (h : eM a = eM b) : a = b := mag_inj (eW_inj h)
@[simp] theorem dg_size (k : Nat) : (dg k).size = 1 := rfl
@[simp] theorem dg_agg (k : Nat) : (dg k).isAgg = false := rfl
@[simp] theorem eW_size (k : List Nat) : (eW k).size = 1 := rfl
@[simp] theorem eW_agg (k : List Nat) : (eW k).isAgg = false := rfl
@[simp] theorem eM_size (k : Nat) : (eM k).size = 1 := rfl
@[simp] theorem eM_agg (k : Nat) : (eM k).isAgg = false := rfl
theorem dg_at (a : List Nat) (i : Nat) (h : i < a.length) : (a.map dg)[i]? = some (dg (a.getD i 0)) := by
  rw [List.getElem?_map, List.getElem?_eq_getElem h, List.getD_eq_getElem?_getD, List.getElem?_eq_getElem h]; rfl

theorem ix_dg (a : List Nat) (i : Nat) (h : i < a.length) : ix (a.map dg) i = some (dg (a.getD i 0)) := dg_at a i h

/-! Contracts: over inputs of a kind α, of which e tells the data. -/
section
variable {α : Type} {e : α → List D} {pre : α → Prop} {post : α → List D}
open Classical in
noncomputable def ctD (e : α → List D) (pre : α → Prop) (post : α → List D) : List D → Prop × List D := fun ds =>
  if h : ∃ a, e a = ds then (pre h.choose, post h.choose) else (False, [])
theorem ctD_at (inj : ∀ a b, e a = e b → a = b) (a : α) : ctD e pre post (e a) = (pre a, post a) := by
  unfold ctD
  have h : ∃ b, e b = e a := ⟨a, rfl⟩
  rw [dif_pos h, inj _ _ h.choose_spec]
theorem ctD_pre {ds : List D} (h : (ctD e pre post ds).1) : ∃ a, ds = e a ∧ pre a ∧ ctD e pre post ds = (pre a, post a) := by
  unfold ctD at h ⊢
  by_cases hh : ∃ a, e a = ds
  · rw [dif_pos hh] at h ⊢
    exact ⟨_, hh.choose_spec.symm, h, rfl⟩
  · rw [dif_neg hh] at h
    exact h.elim
end
section
variable {α : Type} {e : α → List Ar × List D} {pre : α → Prop} {post : α → List Rv × List D}
open Classical in
noncomputable def ctM (e : α → List Ar × List D) (pre : α → Prop) (post : α → List Rv × List D) : List Ar → List D → Prop × List Rv × List D := fun xs ds =>
  if h : ∃ a, e a = (xs, ds) then (pre h.choose, post h.choose) else (False, [], [])
theorem ctM_at (inj : ∀ a b, e a = e b → a = b) (a : α) : ctM e pre post (e a).1 (e a).2 = (pre a, post a) := by
  unfold ctM
  have h : ∃ b, e b = ((e a).1, (e a).2) := ⟨a, rfl⟩
  rw [dif_pos h, inj _ _ h.choose_spec]
theorem ctM_pre {xs : List Ar} {ds : List D} (h : (ctM e pre post xs ds).1) : ∃ a, xs = (e a).1 ∧ ds = (e a).2 ∧ pre a ∧ ctM e pre post xs ds = (pre a, post a) := by
  unfold ctM at h ⊢
  by_cases hh : ∃ a, e a = (xs, ds)
  · rw [dif_pos hh] at h ⊢
    have hs := hh.choose_spec
    exact ⟨_, (congrArg (·.1) hs).symm, (congrArg (·.2) hs).symm, h, rfl⟩
  · rw [dif_neg hh] at h
    exact h.elim
end

/-- Tables of contracts. -/
def tbl (l : List (FuncId × Ct)) (f : FuncId) : Option Ct := (l.find? (fun p => p.1 == f)).map (·.2)
variable {N : NR}
theorem tbl_nil : TbOK N Tryz.prog (tbl []) := fun f c h => by simp [tbl] at h
theorem tbl_cons {f : FuncId} {c : Ct} {l : List (FuncId × Ct)} (h : CtOK N Tryz.prog f c) (hc : callable Tryz.prog f = true) (hl : TbOK N Tryz.prog (tbl l)) : TbOK N Tryz.prog (tbl ((f, c) :: l)) := fun g d hg => by
  unfold tbl at hg
  rw [List.find?_cons] at hg
  by_cases e : f = g
  · subst e
    simp at hg
    subst hg
    exact ⟨h, hc⟩
  · have : ((f, c).1 == g) = false := by simpa using e
    rw [this] at hg
    exact hl g d hg
@[simp] theorem tbl_hit {f : FuncId} {c : Ct} {l : List (FuncId × Ct)} : tbl ((f, c) :: l) f = some c := by simp [tbl]
theorem tbl_skip {f g : FuncId} {c : Ct} {l : List (FuncId × Ct)} (h : (f == g) = false) : tbl ((f, c) :: l) g = tbl l g := by simp only [tbl, List.find?_cons, h]

/-- A function's contract out of its reading. -/
theorem rdD {α : Type} {e : α → List D} {pre : α → Prop} {post : α → List D} {f : FuncId} {fn : Func} {c : Code} {mf : FuncId → Bool} {tb : FuncId → Option Ct} (htb : TbOK N Tryz.prog tb) (hf : Tryz.prog.funcs[f]? = some fn) (hb : fn.body = some c) (hd : drawAll mf c = true)
    (h : ∀ a, pre a → (e a).length ≤ fn.ntmps ∧ awp Tryz.prog mf tb c (start fn.ntmps ((e a).map .dat) []) (endK Tryz.prog fn.ntmps fn.results.toList ((post a).map .dat) [])) : SpecD N Tryz.prog f (ctD e pre post) := by
  refine specD_of hf hb (fun ds hp => ?_)
  obtain ⟨a, rfl, h1, h2⟩ := ctD_pre hp
  rw [h2]
  exact ⟨(h a h1).1, awp_sound htb mo _ _ _ hd (h a h1).2⟩
theorem rdM {α : Type} {e : α → List Ar × List D} {pre : α → Prop} {post : α → List Rv × List D} {f : FuncId} {fn : Func} {c : Code} {mf : FuncId → Bool} {tb : FuncId → Option Ct} (htb : TbOK N Tryz.prog tb) (hf : Tryz.prog.funcs[f]? = some fn) (hb : fn.body = some c) (hd : drawAll mf c = true)
    (h : ∀ a, pre a → (e a).1.length ≤ fn.ntmps ∧ (post a).2.length = (e a).2.length ∧ awp Tryz.prog mf tb c (start fn.ntmps (e a).1 (e a).2) (endK Tryz.prog fn.ntmps fn.results.toList (post a).1 (post a).2)) : SpecM N Tryz.prog f (ctM e pre post) := by
  refine specM_of hf hb (fun xs ds hp => ?_)
  obtain ⟨a, rfl, rfl, h1, h2⟩ := ctM_pre hp
  rw [h2]
  exact ⟨(h a h1).1, (h a h1).2.1, awp_sound htb mo _ _ _ hd (h a h1).2.2⟩

/-- A loop's next round. -/
def Nx (I : Nat → St → Prop) (n : Nat) (s : St) : Prop := ∃ m s'', m < n ∧ Snd s s'' ∧ I m s''
theorem loop_go {P : Program} {mf : FuncId → Bool} {tb : FuncId → Option Ct} {x : Code} {st : St} {K : Exit → St → Prop} (I : Nat → St → Prop) {n : Nat} {s0 : St} (h0 : Snd st s0) (hn : I n s0)
    (hx : ∀ n s, I n s → ∀ KN : St → Prop, (∀ s', Nx I n s' → KN s') → awp P mf tb x s (Klp KN K)) : awp P mf tb (.loop x) st K :=
  ⟨I, ⟨n, s0, h0, hn⟩, fun n s hi => hx n s hi _ (fun s' h => h)⟩
theorem nx {I : Nat → St → Prop} {n m : Nat} {s s'' : St} (h : Snd s s'') (hi : I m s'') (hm : m < n) : Nx I n s := ⟨m, s'', hm, h, hi⟩
/-- To know less, part by part. -/
theorem leT_nil : LeT [] [] := trivial
theorem leT_any {x : X} {a b : List X} (h : LeT a b) : LeT (x :: a) (.any :: b) := ⟨.inl rfl, h⟩
theorem leT_same {x : X} {a b : List X} (h : LeT a b) : LeT (x :: a) (x :: b) := ⟨.inr rfl, h⟩

@[simp] theorem bits_u64 : IntKind.u64.bits = 64 := rfl
@[simp] theorem bits_i64 : IntKind.i64.bits = 64 := rfl
@[simp] theorem bits_u32 : IntKind.u32.bits = 32 := rfl
@[simp] theorem cells_u32 (n : Int) : (Value.int .u32 n).cells.size = 1 := rfl
theorem wrap_u64 (n : Int) : IntKind.u64.wrap n = n % 18446744073709551616 := by simp [IntKind.wrap, IntKind.signed, IntKind.bits]
theorem wrap_u32 (n : Int) : IntKind.u32.wrap n = n % 4294967296 := by simp [IntKind.wrap, IntKind.signed, IntKind.bits]
theorem wrap_i64 (n : Int) : IntKind.i64.wrap n = (n + 9223372036854775808) % 18446744073709551616 - 9223372036854775808 := IntKind.wrap_i64 n
theorem i64_id (n : Int) (h0 : -9223372036854775808 ≤ n) (h1 : n ≤ 9223372036854775807) : IntKind.i64.wrap n = n := by rw [wrap_i64]; omega
theorem u64_id (n : Int) (h0 : 0 ≤ n) (h1 : n ≤ 18446744073709551615) : IntKind.u64.wrap n = n := by rw [wrap_u64]; omega
theorem u32_id (n : Int) (h0 : 0 ≤ n) (h1 : n ≤ 4294967295) : IntKind.u32.wrap n = n := by rw [wrap_u32]; omega
theorem wrap_u64_nat (n : Nat) : IntKind.u64.wrap (n : Int) = ((n % 18446744073709551616 : Nat) : Int) := by rw [wrap_u64]; omega
theorem wrap_u32_nat (n : Nat) : IntKind.u32.wrap (n : Int) = ((n % 4294967296 : Nat) : Int) := by rw [wrap_u32]; omega
@[simp] theorem int_lt_succ (a : Int) : (a < a + 1) = True := by simp; omega
@[simp] theorem int_le_succ (a : Int) : (a ≤ a + 1) = True := by simp; omega
theorem maxLen_ge : 35184372088832 ≤ maxLen := by decide
/-- A sum's digit and what is carried. -/
theorem cut32 (e : Int) (t : Nat) (he : e = t) : ∃ c d : Nat, d < B ∧ d + B * c = t ∧ IntKind.u32.wrap e = d ∧ e / 4294967296 = c := by
  refine ⟨t / B, t % B, Nat.mod_lt _ B_pos, Nat.mod_add_div t B, ?_, ?_⟩
  · rw [wrap_u32, he]; show _ = ((t % 4294967296 : Nat) : Int); omega
  · rw [he]; show _ = ((t / 4294967296 : Nat) : Int); omega
end Go.Proofs.YtdkgkcnllhcamaaGreat.Ae

/-! impl.trimmed: digits without zeros at their end. No condition. -/
namespace Go.Proofs.YtdkgkcnllhcamaaGreat.Ae
open Go Go.RowKit Go.Proofs.YtdkgkcnllhcamaaGreat.Dig
variable {N : NR}

/-- Digits, whatever lies at their end. -/
structure Ds where
  ds : List Nat
  ok : Digs ds
theorem Ds.ext {a b : Ds} (h : a.ds = b.ds) : a = b := by cases a; cases b; simp at h; subst h; rfl
def trimE (a : Ds) : List D := [eW a.ds]
theorem trimE_inj (a b : Ds) (h : trimE a = trimE b) : a = b := Ds.ext (eW_inj (by simpa [trimE] using h))
noncomputable def trimC := ctD trimE (fun a => a.ds.length < 2 ^ 62) (fun a => [eM (val a.ds)])
theorem trimC_at (ds : List Nat) (h : Digs ds) : trimC [eW ds] = (ds.length < 2 ^ 62, [eM (val ds)]) := ctD_at trimE_inj ⟨ds, h⟩

def trimS (xs : List Nat) : St := ⟨[.dat (eW xs), .any, .any, .any, .any, .any, .any, .any, .any, .any, .any, .any, .any, .any, .any, .any, .any, .any, .any, .any, .any], [none, none, none, none, none, none, none, none, none, none, none, none, none, none, none, none, none, none, none, none, none]⟩
theorem trimC_at' (ds : List Nat) (h : Digs ds) : trimC [.sl 1 (ds.map dg)] = (ds.length < 2 ^ 62, [.sl 1 ((mag (val ds)).map dg)]) := trimC_at ds h
theorem trimmed_spec : SpecD N Tryz.prog 93 trimC := by
  refine rdD (mf := fun _ => false) tbl_nil (fn := Tryz.f93) (by kernel_rfl) rfl (by kernel_rfl) ?_
  rintro ⟨ds, hd⟩ hlen
  refine ⟨by show 1 ≤ 21; decide, ?_⟩
  simp only [trimE, Tryz.f93]
  simp [List.replicate]
  refine loop_go (fun n s => ∃ xs : List Nat, n = xs.length ∧ xs.length < 2 ^ 62 ∧ Digs xs ∧ val xs = val ds ∧ s = trimS xs) (s0 := trimS ds) (snd_of (by simp [LeT, trimS]) rfl) ⟨ds, rfl, hlen, hd, rfl, rfl⟩ ?_
  rintro n s ⟨xs, rfl, hl, hx, hv, rfl⟩ KN hN
  rcases List.eq_nil_or_concat xs with rfl | ⟨ys, y, rfl⟩
  · simp [trimS, eW]
    rw [← hv]; simp [val, eM, mag_zero, eW]
  · rw [List.concat_eq_append] at *
    have hl' : ys.length + 1 < 2 ^ 62 := by simpa using hl
    have e1 : IntKind.i64.wrap (((ys ++ [y]).length : Int) - 1) = ys.length := by simp [wrap_i64]; omega
    have e2 : ix (List.map dg (ys ++ [y])) ys.length = some (dg y) := by simp [ix]
    have e3 : lsub ((ys ++ [y]).map dg) 0 ys.length = ys.map dg := by simp [lsub]
    generalize hxs : ys ++ [y] = xs at *
    have e4 : (0 : Int) < xs.length := by rw [← hxs]; simp
    have e5 : ys.length ≤ xs.length := by rw [← hxs]; simp
    simp [trimS, eW, e1, e2, e3, e4, e5, dg]
    have hne : xs ≠ [] := by rw [← hxs]; simp
    refine ⟨fun _ => ⟨fun hy => hN _ (nx (s'' := trimS ys) (m := ys.length) (snd_of (by simp [LeT, trimS, eW]) rfl) ⟨ys, rfl, by omega, ?_, ?_, rfl⟩ (by rw [← hxs]; simp)), fun hy => ?_⟩, fun h => absurd h hne⟩
    · rw [← hxs] at hx; exact hx.left
    · rw [← hv, ← hxs, hy, val_snoc_zero]
    · rw [← hv, ← hxs] at *
      rw [eM, mag_val_snoc hx hy]
      exact Sub.refl _
theorem trimmed_ok : callable Tryz.prog 93 = true := by kernel_rfl
end Go.Proofs.YtdkgkcnllhcamaaGreat.Ae

/-! impl.addMag, impl.cmpMag: sums and comparisons of digits. No condition. -/
namespace Go.Proofs.YtdkgkcnllhcamaaGreat.Ae
open Go Go.RowKit Go.Proofs.YtdkgkcnllhcamaaGreat.Dig
variable {N : NR}

/-! Two numbers. -/
structure N2 where
  a : Nat
  b : Nat
def n2E (p : N2) : List D := [eM p.a, eM p.b]
theorem n2E_inj (p q : N2) (h : n2E p = n2E q) : p = q := by
  obtain ⟨a, b⟩ := p; obtain ⟨c, d⟩ := q
  simp only [n2E, List.cons.injEq, and_true] at h
  rw [eM_inj h.1, eM_inj h.2]
/-- Numbers of moderate size. -/
def Sm (n : Nat) : Prop := (mag n).length < 2 ^ 40
noncomputable def addC := ctD n2E (fun p => Sm p.a ∧ Sm p.b) (fun p => [eM (p.a + p.b)])
theorem addC_at (a b : Nat) : addC [eM a, eM b] = (Sm a ∧ Sm b, [eM (a + b)]) := ctD_at n2E_inj ⟨a, b⟩

def z32 : D := .lit (.int .u32 0)
def addS (a b : Nat) (os : List Nat) (c k : Nat) : St := ⟨[.dat (eM a), .dat (eM b), .any, .any, .any, .row 14, .dat (.lit (.int .u64 c)), .any, .any, .any, .any, .any, .any, .any, .any, .any, .dat (.lit (.int .i64 ((os.length + k : Nat) : Int))), .dat (.lit (.int .i64 os.length)), .any, .any, .any, .any, .any, .any, .any, .any, .any, .any, .any, .any, .any, .any, .any, .any, .any, .any, .any, .any, .any, .any, .any, .any, .any, .any, .any, .any, .any, .any, .any, .any, .any, .any], [none, none, none, none, none, none, none, none, none, none, none, none, none, none, some (.row 1 72 (os.map dg ++ List.replicate k z32)), none, none, none, none, none, none, none, none, none, none, none, none, none, none, none, none, none, none, none, none, none, none, none, none, none, none, none, none, none, none, none, none, none, none, none, none, none]⟩

theorem addMag_spec : SpecD N Tryz.prog 69 addC := by
  refine rdD (mf := fun f => f == 93) (tbl_cons (c := .data trimC) trimmed_spec trimmed_ok tbl_nil) (fn := Tryz.f69) (by kernel_rfl) rfl (by kernel_rfl) ?_
  rintro ⟨a, b⟩ ⟨ha, hb⟩
  refine ⟨by show 2 ≤ 52; decide, ?_⟩
  simp only [n2E, Tryz.f69]
  simp only [Sm] at ha hb
  obtain ⟨m, hm, hm'⟩ : ∃ m : Nat, IntKind.i64.wrap ((if (mag a).length < (mag b).length then ((mag b).length : Int) else (mag a).length) + 1) = m ∧ m = max (mag a).length (mag b).length + 1 :=
    ⟨_, by rw [wrap_i64]; split <;> omega, rfl⟩
  have hm1 : m ≤ 2 ^ 40 := by omega
  simp [eM, eW, hm]
  refine ⟨by omega, ?_⟩
  refine loop_go (fun n s => ∃ (os : List Nat) (c : Nat), Digs os ∧ c ≤ 1 ∧ val os + B ^ os.length * c = val ((mag a).take os.length) + val ((mag b).take os.length) ∧ os.length + n = m ∧ s = addS a b os c n) (s0 := addS a b [] 0 m) (n := m)
    (snd_of (by simp [LeT, addS, eM, eW]) (by simp [addS, z32])) ⟨[], 0, Digs.nil, by omega, by simp [val], by simp, rfl⟩ ?_
  rintro n s ⟨os, c, hos, hc, hv, hl, rfl⟩ KN hN
  cases n with
  | zero =>
    have hvl := val_lt hos
    have e1 : val os = a + b := by
      rw [val_take_all _ _ (by omega), val_take_all _ _ (by omega), val_mag, val_mag] at hv
      have h1 : a < B ^ (mag a).length := mag_lt.1 (Nat.le_refl _)
      have h2 : b < B ^ (mag b).length := mag_lt.1 (Nat.le_refl _)
      have h3 : B ^ (mag a).length ≤ B ^ (os.length - 1) := Nat.pow_le_pow_right B_pos (by omega)
      have h4 : B ^ (mag b).length ≤ B ^ (os.length - 1) := Nat.pow_le_pow_right B_pos (by omega)
      have h5 : B ^ os.length = B ^ (os.length - 1) * B := by rw [← Nat.pow_succ]; congr 1; omega
      have h6 : B ^ (os.length - 1) * 2 ≤ B ^ (os.length - 1) * B := Nat.mul_le_mul_left _ (by decide)
      rcases Nat.le_one_iff_eq_zero_or_eq_one.1 hc with rfl | rfl
      · omega
      · omega
    have e2 : os.length < 2 ^ 62 := by omega
    simp [addS, eM, eW, trimC_at' os hos, e1]
    simpa using e2
  | succ k =>
    obtain ⟨x, hx⟩ : ∃ x, x = (mag a).getD os.length 0 := ⟨_, rfl⟩
    obtain ⟨y, hy⟩ : ∃ y, y = (mag b).getD os.length 0 := ⟨_, rfl⟩
    have hxB : x < 4294967296 := by rw [hx]; exact getD_lt (mag_digs a) _
    have hyB : y < 4294967296 := by rw [hy]; exact getD_lt (mag_digs b) _
    have r1 : IntKind.u64.wrap (x : Int) = x := by rw [wrap_u64]; omega
    have r2 : IntKind.u64.wrap (y : Int) = y := by rw [wrap_u64]; omega
    have r3 : IntKind.u64.wrap ((c : Int) + x) = c + x := by rw [wrap_u64]; omega
    have r4 : IntKind.u64.wrap ((c : Int) + x + y) = c + x + y := by rw [wrap_u64]; omega
    have r5 : IntKind.u64.wrap ((c : Int) + y) = c + y := by rw [wrap_u64]; omega
    have r6 : IntKind.i64.wrap ((os.length : Int) + 1) = os.length + 1 := by rw [wrap_i64]; omega
    have r7 : (os.length : Int) < os.length + (k + 1) := by omega
    have step : ∀ (c' d : Nat), d < B → d + B * c' = c + x + y → ∀ s', Snd s' (addS a b (os ++ [d]) c' k) → KN s' := by
      intro c' d hd ht s' hs
      refine hN _ (nx hs ⟨_, _, hos.append (Digs.nil.cons hd), ?_, ?_, ?_, rfl⟩ (by omega))
      · simp only [B] at ht; omega
      · rw [val_snoc, List.length_append, List.length_singleton, val_take_getD, val_take_getD, ← hx, ← hy, Nat.pow_succ, Nat.mul_assoc, Nat.add_assoc, ← Nat.mul_add, ht]
        simp only [Nat.mul_add]
        omega
      · rw [List.length_append, List.length_singleton]; omega
    have e0 : ∀ v : D, lset (List.map dg os ++ List.replicate (k + 1) z32) os.length v = List.map dg os ++ v :: List.replicate k z32 := fun v => by
      have h : os.length = (List.map dg os).length := by simp
      rw [List.replicate_succ]; unfold lset; rw [h, List.set_append_right _ _ (Nat.le_refl _), Nat.sub_self]; rfl
    have e9 : ix (List.map dg os ++ List.replicate (k + 1) z32) os.length = some z32 := by
      have h : os.length = (List.map dg os).length := by simp
      unfold ix; rw [h, List.getElem?_append_right (Nat.le_refl _), Nat.sub_self]; rfl
    have fin : ∀ (e : Int), e = ((c + x + y : Nat) : Int) → ∃ c' d : Nat, IntKind.u32.wrap e = d ∧ e / 4294967296 = c' ∧ ∀ s', Snd s' (addS a b (os ++ [d]) c' k) → KN s' := fun e he => by
      obtain ⟨c', d, h1, h2, h3, h4⟩ := cut32 e _ he
      exact ⟨c', d, h3, h4, step c' d h1 h2⟩
    by_cases ha' : os.length < (mag a).length <;> by_cases hb' : os.length < (mag b).length
    · have e1 := ix_dg _ _ ha'
      have e2 := ix_dg _ _ hb'
      rw [← hx] at e1
      rw [← hy] at e2
      obtain ⟨c', d, h1, h2, h3⟩ := fin (c + x + y) (by omega)
      simp [addS, eM, eW, ha', hb', e1, e2, e0, e9, dg, r1, r2, r3, r4, r5, r6, r7, h1, h2]
      exact ⟨⟨rfl, rfl⟩, h3 _ (snd_of (by simp [LeT, addS, eM, eW]; omega) (by simp [addS, dg]))⟩
    · have e1 := ix_dg _ _ ha'
      rw [← hx] at e1
      have hy0 : y = 0 := by rw [hy]; exact getD_out _ _ hb'
      obtain ⟨c', d, h1, h2, h3⟩ := fin (c + x) (by omega)
      simp [addS, eM, eW, ha', hb', e1, e0, e9, dg, r1, r2, r3, r4, r5, r6, r7, h1, h2]
      exact ⟨⟨rfl, rfl⟩, h3 _ (snd_of (by simp [LeT, addS, eM, eW]; omega) (by simp [addS, dg]))⟩
    · have e2 := ix_dg _ _ hb'
      rw [← hy] at e2
      have hx0 : x = 0 := by rw [hx]; exact getD_out _ _ ha'
      obtain ⟨c', d, h1, h2, h3⟩ := fin (c + y) (by omega)
      simp [addS, eM, eW, ha', hb', e2, e0, e9, dg, r1, r2, r3, r4, r5, r6, r7, h1, h2]
      exact ⟨⟨rfl, rfl⟩, h3 _ (snd_of (by simp [LeT, addS, eM, eW]; omega) (by simp [addS, dg]))⟩
    · have hx0 : x = 0 := by rw [hx]; exact getD_out _ _ ha'
      have hy0 : y = 0 := by rw [hy]; exact getD_out _ _ hb'
      obtain ⟨c', d, h1, h2, h3⟩ := fin c (by omega)
      simp [addS, eM, eW, ha', hb', e0, e9, dg, r1, r2, r3, r4, r5, r6, r7, h1, h2]
      exact ⟨⟨rfl, rfl⟩, h3 _ (snd_of (by simp [LeT, addS, eM, eW]; omega) (by simp [addS, dg]))⟩
theorem addMag_ok : callable Tryz.prog 69 = true := by kernel_rfl
end Go.Proofs.YtdkgkcnllhcamaaGreat.Ae

/-! impl.cmpMag: digits compared. No condition. -/
namespace Go.Proofs.YtdkgkcnllhcamaaGreat.Ae
open Go Go.RowKit Go.Proofs.YtdkgkcnllhcamaaGreat.Dig
variable {N : NR}

/-- What cmpMag answers. -/
noncomputable def cmpV (a b : Nat) : Int := if (mag a).length = (mag b).length then (if a < b then -1 else if b < a then 1 else 0) else ((mag a).length : Int) - (mag b).length
theorem cmpV_neg {a b : Nat} : cmpV a b < 0 ↔ a < b := by
  unfold cmpV
  split
  · repeat' split
    all_goals omega
  · rename_i h
    constructor
    · intro h1; exact mag_len_lt (by omega)
    · intro h1; have := mag_len_le (Nat.le_of_lt h1); omega
theorem cmpV_pos {a b : Nat} : 0 < cmpV a b ↔ b < a := by
  unfold cmpV
  split
  · repeat' split
    all_goals omega
  · rename_i h
    constructor
    · intro h1; exact mag_len_lt (by omega)
    · intro h1; have := mag_len_le (Nat.le_of_lt h1); omega
theorem cmpV_zero {a b : Nat} : cmpV a b = 0 ↔ a = b := by
  constructor
  · intro h
    have h1 := @cmpV_neg a b
    have h2 := @cmpV_pos a b
    omega
  · rintro rfl; unfold cmpV; simp
theorem cmpV_len {a b : Nat} (h : (mag a).length ≠ (mag b).length) : cmpV a b = ((mag a).length : Int) - (mag b).length := by unfold cmpV; rw [if_neg h]
noncomputable def cmpC := ctD n2E (fun p => Sm p.a ∧ Sm p.b) (fun p => [.lit (.int .i64 (cmpV p.a p.b))])
theorem cmpC_at (a b : Nat) : cmpC [eM a, eM b] = (Sm a ∧ Sm b, [.lit (.int .i64 (cmpV a b))]) := ctD_at n2E_inj ⟨a, b⟩
def cmpS (a b : Nat) (n : Nat) : St := ⟨[.dat (eM a), .dat (eM b), .any, .any, .any, .dat (.lit (.int .i64 ((n : Int) - 1))), .any, .any, .any, .any, .any, .any, .any, .any, .any, .any, .any, .any, .any, .any, .any, .any, .any, .any, .any, .any, .any, .any, .any, .any, .any, .any, .any, .any, .any, .any, .any, .any, .any, .any, .any, .any, .any], [none, none, none, none, none, none, none, none, none, none, none, none, none, none, none, none, none, none, none, none, none, none, none, none, none, none, none, none, none, none, none, none, none, none, none, none, none, none, none, none, none, none, none]⟩

theorem drop_step {a b : List Nat} {k : Nat} (ha : k < a.length) (hb : k < b.length) (h : a.drop (k + 1) = b.drop (k + 1)) (e : a.getD k 0 = b.getD k 0) : a.drop k = b.drop k := by
  rw [List.drop_eq_getElem_cons ha, List.drop_eq_getElem_cons hb, h]
  congr 1
  rw [List.getD_eq_getElem?_getD, List.getElem?_eq_getElem ha, List.getD_eq_getElem?_getD, List.getElem?_eq_getElem hb] at e
  exact e
theorem getD_some {a : List Nat} {k : Nat} (ha : k < a.length) : a[k]? = some (a.getD k 0) := by
  rw [List.getD_eq_getElem?_getD, List.getElem?_eq_getElem ha]; rfl

theorem cmpMag_spec : SpecD N Tryz.prog 70 cmpC := by
  refine rdD (mf := fun _ => false) tbl_nil (fn := Tryz.f70) (by kernel_rfl) rfl (by kernel_rfl) ?_
  rintro ⟨a, b⟩ ⟨ha, hb⟩
  refine ⟨by show 2 ≤ 43; decide, ?_⟩
  simp only [n2E, Tryz.f70]
  simp only [Sm] at ha hb
  have r1 : IntKind.i64.wrap (((mag a).length : Int) - (mag b).length) = (mag a).length - (mag b).length := by rw [wrap_i64]; omega
  have r2 : IntKind.i64.wrap (((mag a).length : Int) - 1) = (mag a).length - 1 := by rw [wrap_i64]; omega
  have r3 : IntKind.i64.wrap (((mag b).length : Int) - 1) = (mag b).length - 1 := by rw [wrap_i64]; omega
  simp [eM, eW, r1, r2, r3]
  refine ⟨fun h => ?_, fun h => ?_⟩
  · rw [cmpV_len (by omega)]; exact Sub.refl _
  have hlen : (mag a).length = (mag b).length := by omega
  refine loop_go (fun n s => n ≤ (mag a).length ∧ (mag a).drop n = (mag b).drop n ∧ s = cmpS a b n) (s0 := cmpS a b (mag a).length) (n := (mag a).length)
    (snd_of (by simp [LeT, cmpS, eM, eW]) (by simp [cmpS])) ⟨Nat.le_refl _, by rw [List.drop_eq_nil_of_le (Nat.le_refl _), List.drop_eq_nil_of_le (by omega)], rfl⟩ ?_
  rintro n s ⟨hn, hd, rfl⟩ KN hN
  cases n with
  | zero =>
    have e : a = b := mag_inj (by simpa using hd)
    have e0 : cmpV a b = 0 := cmpV_zero.2 e
    simp [cmpS, eM, eW, e0]
  | succ k =>
    obtain ⟨x, hx⟩ : ∃ x, x = (mag a).getD k 0 := ⟨_, rfl⟩
    obtain ⟨y, hy⟩ : ∃ y, y = (mag b).getD k 0 := ⟨_, rfl⟩
    have hka : k < (mag a).length := by omega
    have hkb : k < (mag b).length := by omega
    have e1 := ix_dg _ _ hka
    have e2 := ix_dg _ _ hkb
    rw [← hx] at e1
    rw [← hy] at e2
    have r4 : IntKind.i64.wrap ((k : Int) - 1) = (k : Int) - 1 := by rw [wrap_i64]; omega
    have l1 : x < y → a < b := fun h => by
      have := val_cmp (mag_digs a) (mag_digs b) hlen (by rw [getD_some hka, hx]) (by rw [getD_some hkb, hy]) hd h
      rwa [val_mag, val_mag] at this
    have l2 : y < x → b < a := fun h => by
      have := val_cmp (mag_digs b) (mag_digs a) hlen.symm (by rw [getD_some hkb, hy]) (by rw [getD_some hka, hx]) hd.symm h
      rwa [val_mag, val_mag] at this
    simp [cmpS, eM, eW, e1, e2, dg, r4]
    refine ⟨fun h => ?_, fun h => ⟨fun h' => ?_, fun h' => ?_⟩⟩
    · have : cmpV a b = -1 := by unfold cmpV; rw [if_pos hlen, if_pos (l1 (by omega))]
      rw [this]; exact Sub.refl _
    · have h3 := l2 (by omega)
      have : cmpV a b = 1 := by unfold cmpV; rw [if_pos hlen, if_neg (by omega), if_pos h3]
      rw [this]; exact Sub.refl _
    · exact hN _ (nx (s'' := cmpS a b k) (snd_of (by simp [LeT, cmpS, eM, eW]) (by simp [cmpS])) ⟨by omega, drop_step hka hkb hd (by rw [← hx, ← hy]; omega), rfl⟩ (by omega))
theorem cmpMag_ok : callable Tryz.prog 70 = true := by kernel_rfl
end Go.Proofs.YtdkgkcnllhcamaaGreat.Ae

/-! math/bits.Sub32, Add32 and impl.subMag: differences of digits. No condition. -/
namespace Go.Proofs.YtdkgkcnllhcamaaGreat.Ae
open Go Go.RowKit Go.Proofs.YtdkgkcnllhcamaaGreat.Dig
variable {N : NR}

/-- Three digits, of which the last is 0 or 1. -/
structure N3 where
  x : Nat
  y : Nat
  b : Nat
def n3E (p : N3) : List D := [dg p.x, dg p.y, dg p.b]
theorem n3E_inj (p q : N3) (h : n3E p = n3E q) : p = q := by
  obtain ⟨a, b, c⟩ := p; obtain ⟨d, e, f⟩ := q
  simp only [n3E, List.cons.injEq, and_true] at h
  rw [dg_inj h.1, dg_inj h.2.1, dg_inj h.2.2]
noncomputable def sub32C := ctD n3E (fun p => p.x < B ∧ p.y < B ∧ p.b ≤ 1) (fun p => [dg ((p.x + B - p.y - p.b) % B), dg (if p.x < p.y + p.b then 1 else 0)])
theorem sub32C_at (x y b : Nat) : sub32C [dg x, dg y, dg b] = ((x < B ∧ y < B ∧ b ≤ 1), [dg ((x + B - y - b) % B), dg (if x < y + b then 1 else 0)]) := ctD_at n3E_inj ⟨x, y, b⟩
noncomputable def add32C := ctD n3E (fun p => p.x < B ∧ p.y < B ∧ p.b ≤ 1) (fun p => [dg ((p.x + p.y + p.b) % B), dg ((p.x + p.y + p.b) / B)])
theorem add32C_at (x y b : Nat) : add32C [dg x, dg y, dg b] = ((x < B ∧ y < B ∧ b ≤ 1), [dg ((x + y + b) % B), dg ((x + y + b) / B)]) := ctD_at n3E_inj ⟨x, y, b⟩

theorem top_bit (n : Nat) (h : n < 2 ^ 32) : n.testBit 31 = decide (2147483648 ≤ n) := by
  rw [Nat.testBit_eq_decide_div_mod_eq]
  by_cases h1 : 2147483648 ≤ n
  · have : n / 2 ^ 31 = 1 := by omega
    simp [this, h1]
  · have : n / 2 ^ 31 = 0 := by omega
    simp [this, h1]
theorem div_top (n : Nat) (h : n < 2 ^ 32) : n / 2147483648 = if n.testBit 31 then 1 else 0 := by
  rw [top_bit n h]
  by_cases h1 : 2147483648 ≤ n
  · simp only [h1, decide_true, if_true]; omega
  · simp only [h1, decide_false]; simp; omega
theorem borrow_bits (x y b d : Nat) (hx : x < 4294967296) (hy : y < 4294967296) (hb : b ≤ 1) (hd : d = (x + 4294967296 - y - b) % 4294967296) :
    ((((4294967295 - x) &&& y) ||| ((4294967295 - (x ^^^ y)) &&& d)) / 2147483648) = if x < y + b then 1 else 0 := by
  have hxy : x ^^^ y < 2 ^ 32 := Nat.xor_lt_two_pow (n := 32) hx hy
  have hd' : d < 2 ^ 32 := by rw [hd]; exact Nat.mod_lt _ (by decide)
  have h1 : ((4294967295 - x) &&& y) < 2 ^ 32 := Nat.and_lt_two_pow (n := 32) _ hy
  have h2 : ((4294967295 - (x ^^^ y)) &&& d) < 2 ^ 32 := Nat.and_lt_two_pow (n := 32) _ hd'
  rw [div_top _ (Nat.or_lt_two_pow (n := 32) h1 h2)]
  have e1 : (4294967295 - x).testBit 31 = !x.testBit 31 := by
    rw [top_bit _ (by omega), top_bit _ hx]
    by_cases h : 2147483648 ≤ x
    · have : ¬ 2147483648 ≤ 4294967295 - x := by omega
      simp [h, this]
    · have : 2147483648 ≤ 4294967295 - x := by omega
      simp [h, this]
  have e2 : (4294967295 - (x ^^^ y)).testBit 31 = !(x ^^^ y).testBit 31 := by
    rw [top_bit _ (by omega), top_bit _ hxy]
    by_cases h : 2147483648 ≤ x ^^^ y
    · have : ¬ 2147483648 ≤ 4294967295 - (x ^^^ y) := by omega
      simp [h, this]
    · have : 2147483648 ≤ 4294967295 - (x ^^^ y) := by omega
      simp [h, this]
  rw [Nat.testBit_or, Nat.testBit_and, Nat.testBit_and, e1, e2, Nat.testBit_xor, top_bit x hx, top_bit y hy, top_bit d hd']
  by_cases c1 : 2147483648 ≤ x <;> by_cases c2 : 2147483648 ≤ y <;> by_cases c3 : 2147483648 ≤ d <;> by_cases c4 : x < y + b <;> simp [c1, c2, c3, c4] <;> omega

theorem sub32_spec : SpecD N Tryz.prog 94 sub32C := by
  refine rdD (mf := fun _ => false) tbl_nil (fn := Tryz.f94) (by kernel_rfl) rfl (by kernel_rfl) ?_
  rintro ⟨x, y, b⟩ ⟨hx, hy, hb⟩
  refine ⟨by show 3 ≤ 25; decide, ?_⟩
  simp only [B] at hx hy hb
  obtain ⟨d, hd⟩ : ∃ d : Nat, d = (x + B - y - b) % B := ⟨_, rfl⟩
  have hd' : d < 4294967296 := by rw [hd]; exact Nat.mod_lt _ B_pos
  have hxy : x ^^^ y < 4294967296 := Nat.xor_lt_two_pow (n := 32) hx hy
  have r1 : IntKind.u32.wrap (IntKind.u32.wrap ((x : Int) - y) - b) = d := by rw [wrap_u32, wrap_u32, hd]; simp only [B]; omega
  have r2 := bNot32 x hx
  have r3 := bAnd32 (4294967295 - x) y (by omega) hy
  have r4 := bXor32 x y hx hy
  have r5 := bNot32 (x ^^^ y) hxy
  have r6 := bAnd32 (4294967295 - (x ^^^ y)) d (by omega) hd'
  have r7 := bOr32 ((4294967295 - x) &&& y) ((4294967295 - (x ^^^ y)) &&& d) (Nat.and_lt_two_pow (n := 32) _ hy) (Nat.and_lt_two_pow (n := 32) _ hd')
  have r8 := borrow_bits x y b d hx hy hb hd
  generalize 4294967295 - x = p at *
  generalize 4294967295 - (x ^^^ y) = q at *
  generalize hbo : (if x < y + b then 1 else 0) = bo at *
  have r9 : (((p &&& y ||| q &&& d : Nat) : Int)) / 2147483648 = bo := by rw [← r8]; exact (Int.natCast_ediv _ _).symm
  simp only [n3E, Tryz.f94]
  rw [← hd]
  simp [dg, r1, r2, r3, r4, r5, r6, r7, r9]
theorem add32_spec : SpecD N Tryz.prog 110 add32C := by
  refine rdD (mf := fun _ => false) tbl_nil (fn := Tryz.f110) (by kernel_rfl) rfl (by kernel_rfl) ?_
  rintro ⟨x, y, b⟩ ⟨hx, hy, hb⟩
  refine ⟨by show 3 ≤ 22; decide, ?_⟩
  simp only [B] at hx hy hb
  obtain ⟨c, d, hd, ht, w1, w2⟩ := cut32 ((x : Int) + y + b) (x + y + b) (by omega)
  have h1 : (x + y + b) % B = d := by rw [← ht, Nat.add_mul_mod_self_left]; exact Nat.mod_eq_of_lt hd
  have h2 : (x + y + b) / B = c := by rw [← ht, Nat.add_mul_div_left _ _ B_pos, Nat.div_eq_of_lt hd, Nat.zero_add]
  have r1 : IntKind.u64.wrap (x : Int) = x := by rw [wrap_u64]; omega
  have r2 : IntKind.u64.wrap (y : Int) = y := by rw [wrap_u64]; omega
  have r3 : IntKind.u64.wrap (b : Int) = b := by rw [wrap_u64]; omega
  have r4 : IntKind.u64.wrap ((x : Int) + y) = x + y := by rw [wrap_u64]; omega
  have r5 : IntKind.u64.wrap ((x : Int) + y + b) = x + y + b := by rw [wrap_u64]; omega
  have r6 : IntKind.u32.wrap (c : Int) = c := by
    simp only [B] at ht
    rw [wrap_u32]; omega
  simp only [n3E, Tryz.f110, h1, h2]
  simp [dg, r1, r2, r3, r4, r5, r6, w1, w2]
theorem sub32_ok : callable Tryz.prog 94 = true := by kernel_rfl
theorem add32_ok : callable Tryz.prog 110 = true := by kernel_rfl
end Go.Proofs.YtdkgkcnllhcamaaGreat.Ae

/-! impl.subMag: differences of digits. No condition. -/
namespace Go.Proofs.YtdkgkcnllhcamaaGreat.Ae
open Go Go.RowKit Go.Proofs.YtdkgkcnllhcamaaGreat.Dig
variable {N : NR}

/-- A row that is written from the left: what lies at the place, and the row behind the store. -/
theorem ix_mid (os : List Nat) (z : D) (k : Nat) : ix (List.map dg os ++ List.replicate (k + 1) z) os.length = some z := by
  have h : os.length = (List.map dg os).length := by simp
  unfold ix; rw [h, List.getElem?_append_right (Nat.le_refl _), Nat.sub_self]; rfl
theorem lset_mid (os : List Nat) (z : D) (k : Nat) (v : D) : lset (List.map dg os ++ List.replicate (k + 1) z) os.length v = List.map dg os ++ v :: List.replicate k z := by
  have h : os.length = (List.map dg os).length := by simp
  rw [List.replicate_succ]; unfold lset; rw [h, List.set_append_right _ _ (Nat.le_refl _), Nat.sub_self]; rfl

noncomputable def subC := ctD n2E (fun p => Sm p.a ∧ Sm p.b ∧ p.b ≤ p.a) (fun p => [eM (p.a - p.b)])
theorem subC_at (a b : Nat) : subC [eM a, eM b] = (Sm a ∧ Sm b ∧ b ≤ a, [eM (a - b)]) := ctD_at n2E_inj ⟨a, b⟩
def subS (a b : Nat) (os : List Nat) (c k : Nat) : St := ⟨[.dat (eM a), .dat (eM b), .any, .any, .any, .row 12, .dat (.lit (.int .u32 c)), .any, .any, .any, .any, .any, .any, .dat (eM a), .dat (.lit (.int .i64 ((os.length + k : Nat) : Int))), .dat (.lit (.int .i64 os.length)), .any, .any, .any, .any, .any, .any, .any, .any, .any, .any, .any, .any, .any, .any, .any, .any, .any, .any, .any, .any, .any, .any, .any, .any, .any], [none, none, none, none, none, none, none, none, none, none, none, none, some (.row 1 72 (os.map dg ++ List.replicate k z32)), none, none, none, none, none, none, none, none, none, none, none, none, none, none, none, none, none, none, none, none, none, none, none, none, none, none, none, none]⟩

theorem borrow_eq (x y b : Nat) (hx : x < B) (hy : y < B) (hb : b ≤ 1) : (x + B - y - b) % B + y + b = x + B * (if x < y + b then 1 else 0) := by
  split
  · rw [Nat.mod_eq_of_lt (by omega)]; omega
  · have : x + B - y - b = (x - y - b) + B * 1 := by omega
    rw [this, Nat.add_mul_mod_self_left, Nat.mod_eq_of_lt (by omega)]; omega

theorem subMag_spec : SpecD N Tryz.prog 71 subC := by
  refine rdD (mf := fun f => f == 93) (tbl_cons (f := 93) (c := .data trimC) trimmed_spec trimmed_ok (tbl_cons (f := 94) (c := .data sub32C) sub32_spec sub32_ok tbl_nil)) (fn := Tryz.f71) (by kernel_rfl) rfl (by kernel_rfl) ?_
  rintro ⟨a, b⟩ ⟨ha, hb, hab⟩
  refine ⟨by show 2 ≤ 41; decide, ?_⟩
  simp only [n2E, Tryz.f71]
  simp only [Sm] at ha hb
  have hab : b ≤ a := hab
  have hle : (mag b).length ≤ (mag a).length := mag_len_le hab
  have t1 : tbl [(93, Ct.data trimC), (94, .data sub32C)] 94 = some (.data sub32C) := rfl
  simp [eM, eW]
  refine ⟨by omega, ?_⟩
  refine loop_go (fun n s => ∃ (os : List Nat) (c : Nat), Digs os ∧ c ≤ 1 ∧ val os + val ((mag b).take os.length) = val ((mag a).take os.length) + B ^ os.length * c ∧ os.length + n = (mag a).length ∧ s = subS a b os c n) (s0 := subS a b [] 0 (mag a).length) (n := (mag a).length)
    (snd_of (by simp [LeT, subS, eM, eW]) (by simp [subS, z32])) ⟨[], 0, Digs.nil, by omega, by simp [val], by simp, rfl⟩ ?_
  rintro n s ⟨os, c, hos, hc, hv, hl, rfl⟩ KN hN
  cases n with
  | zero =>
    have hvl := val_lt hos
    have e1 : val os = a - b := by
      rw [val_take_all _ _ (by omega), val_take_all _ _ (by omega), val_mag, val_mag] at hv
      rcases Nat.le_one_iff_eq_zero_or_eq_one.1 hc with rfl | rfl
      · omega
      · omega
    have e2 : os.length < 2 ^ 62 := by omega
    simp [subS, eM, eW, trimC_at' os hos, e1]
    simpa using e2
  | succ k =>
    obtain ⟨x, hx⟩ : ∃ x, x = (mag a).getD os.length 0 := ⟨_, rfl⟩
    obtain ⟨y, hy⟩ : ∃ y, y = (mag b).getD os.length 0 := ⟨_, rfl⟩
    have hxB : x < B := by rw [hx]; exact getD_lt (mag_digs a) _
    have hyB : y < B := by rw [hy]; exact getD_lt (mag_digs b) _
    have ha' : os.length < (mag a).length := by omega
    have e1 := ix_dg _ _ ha'
    rw [← hx] at e1
    have r6 : IntKind.i64.wrap ((os.length : Int) + 1) = os.length + 1 := by rw [wrap_i64]; omega
    have r7 : (os.length : Int) < os.length + (k + 1) := by omega
    have s1 := sub32C_at x y c
    obtain ⟨d, hd⟩ : ∃ d : Nat, d = (x + B - y - c) % B := ⟨_, rfl⟩
    obtain ⟨c', hc'⟩ : ∃ c' : Nat, c' = if x < y + c then 1 else 0 := ⟨_, rfl⟩
    have hcut : d + y + c = x + B * c' := by rw [hd, hc']; exact borrow_eq x y c hxB hyB hc
    rw [← hd, ← hc'] at s1
    simp only [dg, hxB, hyB, hc, and_self] at s1
    have step : ∀ s', Snd s' (subS a b (os ++ [d]) c' k) → KN s' := by
      intro s' hs
      refine hN _ (nx hs ⟨_, _, hos.append (Digs.nil.cons (by rw [hd]; exact Nat.mod_lt _ B_pos)), ?_, ?_, ?_, rfl⟩ (by omega))
      · rw [hc']; split <;> omega
      · rw [val_snoc, List.length_append, List.length_singleton, val_take_getD, val_take_getD, ← hx, ← hy, Nat.pow_succ, Nat.mul_assoc]
        have h1 := congrArg (B ^ os.length * ·) hcut
        simp only [Nat.mul_add] at h1
        omega
      · rw [List.length_append, List.length_singleton]; omega
    by_cases hb' : os.length < (mag b).length
    · have e2 := ix_dg _ _ hb'
      rw [← hy] at e2
      simp [subS, eM, eW, hb', e1, e2, ix_mid, lset_mid, dg, r6, r7, t1, s1]
      exact ⟨⟨rfl, rfl⟩, step _ (snd_of (by simp [LeT, subS, eM, eW]; omega) (by simp [subS, dg]))⟩
    · have hy0 : y = 0 := by rw [hy]; exact getD_out _ _ hb'
      rw [hy0] at s1
      simp at s1
      simp [subS, eM, eW, hb', e1, ix_mid, lset_mid, dg, r6, r7, t1, s1]
      exact ⟨⟨rfl, rfl⟩, step _ (snd_of (by simp [LeT, subS, eM, eW]; omega) (by simp [subS, dg]))⟩
theorem subMag_ok : callable Tryz.prog 71 = true := by kernel_rfl
end Go.Proofs.YtdkgkcnllhcamaaGreat.Ae

/-! impl.mulMag: products of digits. No condition. -/
namespace Go.Proofs.YtdkgkcnllhcamaaGreat.Ae
open Go Go.RowKit Go.Proofs.YtdkgkcnllhcamaaGreat.Dig
variable {N : NR}

/-- A row's beginning. -/
theorem ix_left (os : List Nat) (r : List D) (j : Nat) (h : j < os.length) : ix (List.map dg os ++ r) j = some (dg (os.getD j 0)) := by
  unfold ix; rw [List.getElem?_append_left (by simpa using h)]; exact dg_at os j h
theorem lset_left (os : List Nat) (r : List D) (j d : Nat) (h : j < os.length) : lset (List.map dg os ++ r) j (.lit (.int .u32 (d : Int))) = List.map dg (os.set j d) ++ r := by
  unfold lset; rw [List.set_append_left _ _ (by simpa using h), List.map_set]; rfl

noncomputable def mulC := ctD n2E (fun p => Sm p.a ∧ Sm p.b) (fun p => [eM (p.a * p.b)])
theorem mulC_at (a b : Nat) : mulC [eM a, eM b] = (Sm a ∧ Sm b, [eM (a * b)]) := ctD_at n2E_inj ⟨a, b⟩
def mulS (a b : Nat) (os : List Nat) (i k : Nat) : St := ⟨[.dat (eM a), .dat (eM b), .any, .any, .any, .row 16, .any, .any, .any, .any, .any, .any, .any, .any, .any, .any, .any, .dat (eM a), .dat (.lit (.int .i64 (mag a).length)), .dat (.lit (.int .i64 i)), .any, .any, .any, .any, .any, .any, .any, .any, .any, .any, .any, .any, .any, .any, .any, .any, .any, .any, .any, .any, .any, .any, .any, .any, .any, .any, .any, .any, .any, .any, .any, .any, .any, .any, .any, .any, .any, .any, .any, .any, .any, .any, .any, .any, .any, .any, .any], [none, none, none, none, none, none, none, none, none, none, none, none, none, none, none, none, some (.row 1 72 (os.map dg ++ List.replicate k z32)), none, none, none, none, none, none, none, none, none, none, none, none, none, none, none, none, none, none, none, none, none, none, none, none, none, none, none, none, none, none, none, none, none, none, none, none, none, none, none, none, none, none, none, none, none, none, none, none, none, none]⟩
def mulT (a b : Nat) (os : List Nat) (i k x c j : Nat) : St := ⟨[.dat (eM a), .dat (eM b), .any, .any, .any, .row 16, .dat (.lit (.int .i64 i)), .dat (.lit (.int .u32 x)), .dat (.lit (.int .u64 c)), .any, .any, .any, .any, .any, .any, .any, .any, .dat (eM a), .dat (.lit (.int .i64 (mag a).length)), .dat (.lit (.int .i64 i)), .any, .any, .any, .any, .dat (eM b), .dat (.lit (.int .i64 (mag b).length)), .dat (.lit (.int .i64 j)), .any, .any, .any, .any, .any, .any, .any, .any, .any, .any, .any, .any, .any, .any, .any, .any, .any, .any, .any, .any, .any, .any, .any, .any, .any, .any, .any, .any, .any, .any, .any, .any, .any, .any, .any, .any, .any, .any, .any, .any], [none, none, none, none, none, none, none, none, none, none, none, none, none, none, none, none, some (.row 1 72 (os.map dg ++ List.replicate k z32)), none, none, none, none, none, none, none, none, none, none, none, none, none, none, none, none, none, none, none, none, none, none, none, none, none, none, none, none, none, none, none, none, none, none, none, none, none, none, none, none, none, none, none, none, none, none, none, none, none, none]⟩

theorem mul_step (P Q x y o c d c' : Nat) (os os' : Nat) (h1 : os' + P * Q * o = os + P * Q * d) (h2 : d + B * c' = c + (x * y + o)) : os' + P * (Q * B) * c' = os + P * Q * c + P * x * (Q * y) := by
  have h3 := congrArg (P * Q * ·) h2
  simp only [Nat.mul_add] at h3
  have e1 : P * (Q * B) * c' = P * Q * (B * c') := by simp only [Nat.mul_assoc]
  have e2 : P * x * (Q * y) = P * Q * (x * y) := by simp only [Nat.mul_assoc, Nat.mul_left_comm]
  rw [e1, e2]
  omega

theorem mulMag_spec : SpecD N Tryz.prog 99 mulC := by
  refine rdD (mf := fun f => f == 93) (tbl_cons (f := 93) (c := .data trimC) trimmed_spec trimmed_ok tbl_nil) (fn := Tryz.f99) (by kernel_rfl) rfl (by kernel_rfl) ?_
  rintro ⟨a, b⟩ ⟨ha, hb⟩
  refine ⟨by show 2 ≤ 67; decide, ?_⟩
  simp only [n2E, Tryz.f99]
  simp only [Sm] at ha hb
  have r1 : IntKind.i64.wrap (((mag a).length : Int) + (mag b).length) = ((mag a).length + (mag b).length : Nat) := by rw [wrap_i64]; omega
  have r0 : (((mag a).length : Int) + (mag b).length).toNat = (mag a).length + (mag b).length := by omega
  simp [eM, eW, r1, r0]
  refine ⟨by omega, ?_⟩
  refine loop_go (fun n s => ∃ (os : List Nat) (i : Nat), Digs os ∧ os.length = i + (mag b).length ∧ i + n = (mag a).length ∧ val os = val ((mag a).take i) * b ∧ s = mulS a b os i n) (s0 := mulS a b (List.replicate (mag b).length 0) 0 (mag a).length) (n := (mag a).length)
    (snd_of (by simp [LeT, mulS, eM, eW]) (by
      have e : List.map dg (List.replicate (mag b).length 0) ++ List.replicate (mag a).length z32 = List.replicate ((mag a).length + (mag b).length) (D.lit (.int .u32 0)) := by
        rw [List.map_replicate, Nat.add_comm]; exact List.replicate_append_replicate
      simp only [mulS, e])) ⟨_, 0, Digs.zeros _, by simp, by simp, by simp [val_zeros, val], rfl⟩ ?_
  rintro n s ⟨os, i, hos, hol, hl, hv, rfl⟩ KN hN
  cases n with
  | zero =>
    have e1 : val os = a * b := by rw [hv, val_take_all _ _ (by omega), val_mag]
    have e2 : os.length < 2 ^ 62 := by omega
    have e3 : (i : Int) = (mag a).length := by omega
    simp [mulS, eM, eW, trimC_at' os hos, e1, e3]
    simpa using e2
  | succ k =>
    obtain ⟨x, hx⟩ : ∃ x, x = (mag a).getD i 0 := ⟨_, rfl⟩
    have hxB : x < 4294967296 := by rw [hx]; exact getD_lt (mag_digs a) _
    have hia : i < (mag a).length := by omega
    have e1 := ix_dg _ _ hia
    rw [← hx] at e1
    have r6 : IntKind.i64.wrap ((i : Int) + 1) = i + 1 := by rw [wrap_i64]; omega
    have r7 : (i : Int) < (mag a).length := by omega
    simp [mulS, eM, eW, e1, r7, dg]
    refine loop_go (fun n s => ∃ (os' : List Nat) (j c : Nat), Digs os' ∧ os'.length = i + (mag b).length ∧ j + n = (mag b).length ∧ c < B ∧ val os' + B ^ i * B ^ j * c = val os + B ^ i * x * val ((mag b).take j) ∧ s = mulT a b os' i (k + 1) x c j) (s0 := mulT a b os i (k + 1) x 0 0) (n := (mag b).length)
      (snd_of (by simp [LeT, mulT, eM, eW]) (by simp [mulT, dg, List.replicate_succ])) ⟨os, 0, 0, hos, hol, by simp, B_pos, by simp [val], rfl⟩ ?_
    rintro m s ⟨os', j, c, hos', hol', hjl, hc, hv', rfl⟩ KM hM
    cases m with
    | zero =>
      have e2 : (j : Int) = (mag b).length := by omega
      have r8 : IntKind.i64.wrap ((i : Int) + (mag b).length) = (os'.length : Int) := by rw [wrap_i64]; omega
      have r9 : IntKind.u32.wrap (c : Int) = c := by
        simp only [B] at hc
        rw [wrap_u32]; omega
      have r10 : (os'.length : Int) < os'.length + (k + 1) := by omega
      simp [mulT, eM, eW, e2, r6, r8, r9, r10, ix_mid, lset_mid]
      refine ⟨⟨rfl, rfl⟩, hN _ (nx (s'' := mulS a b (os' ++ [c]) (i + 1) k) (snd_of (by simp [LeT, mulS, eM, eW]) (by simp [mulS, dg])) ⟨_, _, hos'.append (Digs.nil.cons hc), ?_, ?_, ?_, rfl⟩ (by omega))⟩
      · simp only [List.length_append, List.length_singleton]; omega
      · omega
      · have hv2 := hv'
        rw [val_take_all _ _ (by omega : (mag b).length ≤ j), val_mag, hv] at hv2
        rw [val_snoc, hol', Nat.pow_add, val_take_getD, ← hx, Nat.add_mul]
        have : j = (mag b).length := by omega
        rw [← this]
        exact hv2
    | succ m =>
      obtain ⟨y, hy⟩ : ∃ y, y = (mag b).getD j 0 := ⟨_, rfl⟩
      have hyB : y < B := by rw [hy]; exact getD_lt (mag_digs b) _
      have hjb : j < (mag b).length := by omega
      have e2 := ix_dg _ _ hjb
      rw [← hy] at e2
      have hij : i + j < os'.length := by omega
      obtain ⟨o, ho⟩ : ∃ o, o = os'.getD (i + j) 0 := ⟨_, rfl⟩
      have hoB : o < B := by rw [ho]; exact getD_lt hos' _
      have e3 := ix_left os' (List.replicate (k + 1) z32) (i + j) hij
      rw [← ho] at e3
      have hxy : x * y ≤ 4294967295 * 4294967295 := by
        simp only [B] at hyB
        exact Nat.mul_le_mul (by omega) (by omega)
      simp only [B] at hyB hoB hc
      have q1 : IntKind.u64.wrap (x : Int) = x := by rw [wrap_u64]; omega
      have q2 : IntKind.u64.wrap (y : Int) = y := by rw [wrap_u64]; omega
      have q3 : IntKind.u64.wrap (o : Int) = o := by rw [wrap_u64]; omega
      obtain ⟨p, hp⟩ : ∃ p, p = x * y := ⟨_, rfl⟩
      have hp' : (x : Int) * y = p := by rw [hp]; exact (Int.natCast_mul _ _).symm
      have q4 : IntKind.u64.wrap (p : Int) = p := by rw [wrap_u64]; omega
      have q5 : IntKind.u64.wrap ((p : Int) + o) = p + o := by rw [wrap_u64]; omega
      have q6 : IntKind.u64.wrap ((c : Int) + (p + o)) = c + (p + o) := by rw [wrap_u64]; omega
      have q7 : IntKind.i64.wrap ((i : Int) + j) = i + j := by rw [wrap_i64]; omega
      have q8 : ((i : Int) + j).toNat = i + j := by omega
      have q9 : (j : Int) < (mag b).length := by omega
      have q10 : IntKind.i64.wrap ((j : Int) + 1) = j + 1 := by rw [wrap_i64]; omega
      have q11 : (i : Int) + j < os'.length + (k + 1) := by omega
      have q12 : (0 : Int) ≤ i + j := by omega
      obtain ⟨c', d, hd, hcut, w1, w2⟩ := cut32 ((c : Int) + (p + o)) (c + (p + o)) (by omega)
      have e4 := lset_left os' (List.replicate (k + 1) z32) (i + j) d hij
      simp [mulT, eM, eW, e2, e3, e4, dg, q1, q2, q3, hp', q4, q5, q6, q7, q8, q9, q10, q11, q12, w1, w2]
      refine hM _ (nx (m := m) (s'' := mulT a b (os'.set (i + j) d) i (k + 1) x c' (j + 1)) (snd_of (by simp [LeT, mulT, eM, eW]) (by simp [mulT, dg])) ⟨_, _, _, hos'.set _ hd, by rw [List.length_set]; exact hol', by omega, ?_, ?_, rfl⟩ (by omega))
      · simp only [B] at hd hcut ⊢; omega
      · have h1 := val_set os' (i + j) d hij
        rw [← ho, Nat.pow_add] at h1
        rw [hp] at hcut
        rw [val_take_getD, ← hy, Nat.pow_succ, Nat.mul_add]
        have h2 := mul_step (B ^ i) (B ^ j) x y o c d c' _ _ h1 hcut
        omega
theorem mulMag_ok : callable Tryz.prog 99 = true := by kernel_rfl
end Go.Proofs.YtdkgkcnllhcamaaGreat.Ae

/-! impl.shortMag: digits by one digit. No condition. -/
namespace Go.Proofs.YtdkgkcnllhcamaaGreat.Ae
open Go Go.RowKit Go.Proofs.YtdkgkcnllhcamaaGreat.Dig
variable {N : NR}

/-- A row that is written from the right. -/
theorem ix_rev (z : D) (k : Nat) (r : List D) : ix (List.replicate (k + 1) z ++ r) k = some z := by
  unfold ix; rw [List.getElem?_append_left (by simp)]; simp
theorem lset_rev (z : D) (k : Nat) (r : List D) (v : D) : lset (List.replicate (k + 1) z ++ r) k v = List.replicate k z ++ v :: r := by
  unfold lset
  rw [List.replicate_succ', List.append_assoc, List.set_append_right _ _ (by simp)]
  simp
theorem or_cut (r x : Nat) (hx : x < 4294967296) : (r * 4294967296) ||| x = r * 4294967296 + x := by
  have := Nat.two_pow_add_eq_or_of_lt (i := 32) hx r
  rw [Nat.mul_comm]
  exact this.symm
theorem tdiv_nat (a b : Nat) : Int.tdiv (a : Int) b = ((a / b : Nat) : Int) := rfl
theorem tmod_nat (a b : Nat) : Int.tmod (a : Int) b = ((a % b : Nat) : Int) := rfl
theorem drop_val {a : List Nat} {k : Nat} (h : k < a.length) : val (a.drop k) = a.getD k 0 + B * val (a.drop (k + 1)) := by
  rw [List.drop_eq_getElem_cons h, val, List.getD_eq_getElem?_getD, List.getElem?_eq_getElem h]; rfl

structure N2d where
  a : Nat
  b : Nat
def n2dE (p : N2d) : List D := [eM p.a, dg p.b]
theorem n2dE_inj (p q : N2d) (h : n2dE p = n2dE q) : p = q := by
  obtain ⟨a, b⟩ := p; obtain ⟨c, d⟩ := q
  simp only [n2dE, List.cons.injEq, and_true] at h
  rw [eM_inj h.1, dg_inj h.2]
noncomputable def shortC := ctD n2dE (fun p => Sm p.a ∧ 0 < p.b ∧ p.b < B) (fun p => [eM (p.a / p.b), dg (p.a % p.b)])
theorem shortC_at (a b : Nat) : shortC [eM a, dg b] = (Sm a ∧ 0 < b ∧ b < B, [eM (a / b), dg (a % b)]) := ctD_at n2dE_inj ⟨a, b⟩
def shortS (a b : Nat) (qs : List Nat) (r k : Nat) : St := ⟨[.dat (eM a), .dat (dg b), .any, .any, .any, .any, .row 11, .dat (.lit (.int .u64 r)), .dat (.lit (.int .i64 ((k : Int) - 1))), .any, .any, .any, .any, .any, .any, .any, .any, .any, .any, .any, .any, .any, .any, .any, .any, .any, .any, .any, .any, .any, .any, .any, .any, .any, .any, .any, .any, .any, .any, .any, .any, .any, .any], [none, none, none, none, none, none, none, none, none, none, none, some (.row 1 72 (List.replicate k z32 ++ qs.map dg)), none, none, none, none, none, none, none, none, none, none, none, none, none, none, none, none, none, none, none, none, none, none, none, none, none, none, none, none, none, none, none]⟩

theorem shortMag_spec : SpecD N Tryz.prog 104 shortC := by
  refine rdD (mf := fun f => f == 93) (tbl_cons (f := 93) (c := .data trimC) trimmed_spec trimmed_ok tbl_nil) (fn := Tryz.f104) (by kernel_rfl) rfl (by kernel_rfl) ?_
  rintro ⟨a, b⟩ ⟨ha, hb0, hb⟩
  refine ⟨by show 2 ≤ 43; decide, ?_⟩
  simp only [n2dE, Tryz.f104]
  generalize hq0 : a / b = q0
  generalize hm0 : a % b = m0
  simp only [Sm] at ha hb0 hb
  have r1 : IntKind.i64.wrap (((mag a).length : Int) - 1) = ((mag a).length : Int) - 1 := by rw [wrap_i64]; omega
  simp [eM, eW, dg, r1]
  refine ⟨by omega, ?_⟩
  refine loop_go (fun n s => ∃ (qs : List Nat) (r : Nat), Digs qs ∧ r < b ∧ qs.length + n = (mag a).length ∧ val ((mag a).drop n) = val qs * b + r ∧ s = shortS a b qs r n) (s0 := shortS a b [] 0 (mag a).length) (n := (mag a).length)
    (snd_of (by simp [LeT, shortS, eM, eW, dg]) (by simp [shortS, z32])) ⟨[], 0, Digs.nil, hb0, by simp, by rw [List.drop_eq_nil_of_le (Nat.le_refl _)]; simp [val], rfl⟩ ?_
  rintro n s ⟨qs, r, hqs, hr, hl, hv, rfl⟩ KN hN
  simp only [B] at hb
  cases n with
  | zero =>
    rw [List.drop_zero, val_mag, Nat.mul_comm] at hv
    have e1 : q0 = val qs := by rw [← hq0]; rw [hv, Nat.mul_add_div hb0, Nat.div_eq_of_lt hr, Nat.add_zero]
    have e2 : m0 = r := by rw [← hm0]; rw [hv, Nat.mul_add_mod, Nat.mod_eq_of_lt hr]
    have e3 : qs.length < 2 ^ 62 := by omega
    have e4 : IntKind.u32.wrap (r : Int) = r := by rw [wrap_u32]; omega
    have t1 := trimC_at' qs hqs
    simp [dg] at t1
    simp [shortS, eM, eW, dg, t1, e1, e2, e4]
    simpa using e3
  | succ k =>
    obtain ⟨x, hx⟩ : ∃ x, x = (mag a).getD k 0 := ⟨_, rfl⟩
    have hxB : x < 4294967296 := by rw [hx]; exact getD_lt (mag_digs a) _
    have hk : k < (mag a).length := by omega
    have e1 := ix_dg _ _ hk
    rw [← hx] at e1
    have hrb : r * 4294967296 ≤ 4294967294 * 4294967296 := Nat.mul_le_mul_right _ (by omega)
    obtain ⟨h, hh⟩ : ∃ h, h = r * 4294967296 + x := ⟨_, rfl⟩
    have q1 : IntKind.u64.wrap ((r : Int) * 4294967296) = (r : Int) * 4294967296 := by rw [wrap_u64]; omega
    have q2 : IntKind.u64.wrap (x : Int) = x := by rw [wrap_u64]; omega
    have q3 : bOr .u64 ((r : Int) * 4294967296) x = h := by
      have := bOr64 (r * 4294967296) x (by omega) (by omega)
      rw [or_cut r x hxB, ← hh] at this
      rw [← this]; congr 1
    have q4 : IntKind.u64.wrap (b : Int) = b := by rw [wrap_u64]; omega
    obtain ⟨q, hq⟩ : ∃ q, q = h / b := ⟨_, rfl⟩
    obtain ⟨r', hr'⟩ : ∃ r', r' = h % b := ⟨_, rfl⟩
    have hqB : q < 4294967296 := by
      rw [hq, Nat.div_lt_iff_lt_mul hb0, hh]
      have : (r + 1) * 4294967296 ≤ b * 4294967296 := Nat.mul_le_mul_right _ hr
      omega
    have q5 := tdiv_nat h b
    rw [← hq] at q5
    have q6 := tmod_nat h b
    rw [← hr'] at q6
    have q7 : IntKind.u64.wrap (q : Int) = q := by rw [wrap_u64]; omega
    have q8 : IntKind.u32.wrap (q : Int) = q := by rw [wrap_u32]; omega
    have q9 : IntKind.i64.wrap ((k : Int) - 1) = (k : Int) - 1 := by rw [wrap_i64]; omega
    have q10 : (b : Int) ≠ 0 := by omega
    have q11 : (k : Int) < k + 1 + qs.length := by omega
    have hb1 : ¬ b = 0 := by omega
    simp [shortS, eM, eW, e1, dg, q1, q2, q3, q4, q5, q6, q7, q8, q9, q11, hb1, ix_rev, lset_rev]
    refine ⟨⟨rfl, rfl⟩, hN _ (nx (m := k) (s'' := shortS a b (q :: qs) r' k) (snd_of (by simp [LeT, shortS, eM, eW, dg]) (by simp [shortS, dg])) ⟨_, _, hqs.cons hqB, by rw [hr']; exact Nat.mod_lt _ hb0, by simp; omega, ?_, rfl⟩ (by omega))⟩
    rw [drop_val hk, ← hx, hv, val, Nat.add_mul, hq, hr']
    have h1 := Nat.div_add_mod h b
    rw [Nat.mul_comm] at h1
    have h2 : B * (val qs * b + r) = B * val qs * b + B * r := by rw [Nat.mul_add, Nat.mul_assoc]
    simp only [B] at *
    omega
theorem shortMag_ok : callable Tryz.prog 104 = true := by kernel_rfl
end Go.Proofs.YtdkgkcnllhcamaaGreat.Ae

/-! To know less, and to number anew what is the call's own. No condition. -/
namespace Go.Proofs.YtdkgkcnllhcamaaGreat.Ae
open Go Go.RowKit

/-- What is the call's own: new number, old number, what it is. -/
def obs (n : Nat) (l : List (Nat × Nat × Ob)) : List (Option Ob) := l.foldr (fun p ob => ob.set p.1 (some p.2.2)) (nO n)
def rho : List (Nat × Nat × Ob) → Nat → Nat
  | [], o => o
  | p :: l, o => if o = p.1 then p.2.1 else rho l o
def LeTr (ρ : Nat → Nat) : List X → List X → Prop
  | [], [] => True
  | x :: a, y :: b => (y = .any ∨ x = y.ren ρ) ∧ LeTr ρ a b
  | _, _ => False
theorem leTr_len (ρ : Nat → Nat) : ∀ (a b : List X), LeTr ρ a b → b.length = a.length
  | [], [], _ => rfl
  | x :: a, y :: b, h => by simp [leTr_len ρ a b h.2]
  | [], _ :: _, h => h.elim
  | _ :: _, [], h => h.elim
theorem leTr_get (ρ : Nat → Nat) : ∀ (a b : List X), LeTr ρ a b → ∀ t, b.getD t .any = .any ∨ a.getD t .any = (b.getD t .any).ren ρ
  | [], [], _, t => .inl rfl
  | x :: a, y :: b, h, 0 => h.1
  | x :: a, y :: b, h, t + 1 => by simpa using leTr_get ρ a b h.2 t
  | [], _ :: _, h, _ => h.elim
  | _ :: _, [], h, _ => h.elim
theorem obs_get (n : Nat) : ∀ (l : List (Nat × Nat × Ob)) (o : Nat) (ob : Ob), (obs n l).getD o none = some ob → ∃ p ∈ l, p.1 = o ∧ p.2.1 = rho l o ∧ p.2.2 = ob
  | [], o, ob, h => by
    simp only [obs, List.foldr_nil, nO, List.getD_eq_getElem?_getD, List.getElem?_replicate] at h
    split at h <;> cases h
  | p :: l, o, ob, h => by
    have e : obs n (p :: l) = (obs n l).set p.1 (some p.2.2) := rfl
    rw [e, List.getD_eq_getElem?_getD, List.getElem?_set] at h
    by_cases hp : p.1 = o
    · rw [if_pos hp] at h
      split at h
      · simp at h
        exact ⟨p, List.mem_cons_self, hp, by simp [rho, hp], h⟩
      · cases h
    · rw [if_neg hp, ← List.getD_eq_getElem?_getD] at h
      obtain ⟨q, hq, h1, h2, h3⟩ := obs_get n l o ob h
      refine ⟨q, List.mem_cons_of_mem _ hq, h1, ?_, h3⟩
      rw [h2]
      have : ¬ o = p.1 := fun e => hp e.symm
      simp [rho, this]
def Ob.isP : Ob → Bool
  | .pbox _ => true
  | .prow _ _ _ _ => true
  | _ => false
/-- The variables that were handed over keep their numbers, and no two have one old number. -/
def obsOk (s : List (Option Ob)) : List (Nat × Nat × Ob) → Prop
  | [] => True
  | p :: l => gO s p.2.1 = some p.2.2 ∧ (p.2.2.isP = true → p.1 = p.2.1) ∧ (∀ q ∈ l, q.2.1 = p.2.1 → q.1 = p.1) ∧ obsOk s l
theorem obsOk_at {s : List (Option Ob)} : ∀ (l : List (Nat × Nat × Ob)), obsOk s l → ∀ p ∈ l, gO s p.2.1 = some p.2.2 ∧ (p.2.2.isP = true → p.1 = p.2.1)
  | [], _, p, hp => by cases hp
  | q :: l, h, p, hp => by
    rcases List.mem_cons.1 hp with rfl | hp
    · exact ⟨h.1, h.2.1⟩
    · exact obsOk_at l h.2.2.2 p hp
theorem obsOk_inj {s : List (Option Ob)} : ∀ (l : List (Nat × Nat × Ob)), obsOk s l → ∀ p ∈ l, ∀ q ∈ l, p.2.1 = q.2.1 → p.1 = q.1
  | [], _, p, hp, _, _, _ => by cases hp
  | r :: l, h, p, hp, q, hq, e => by
    rcases List.mem_cons.1 hp with rfl | hp' <;> rcases List.mem_cons.1 hq with rfl | hq'
    · rfl
    · exact (h.2.2.1 q hq' e.symm).symm
    · exact h.2.2.1 p hp' e
    · exact obsOk_inj l h.2.2.2 p hp' q hq' e
theorem snd_obs {s s' : St} {n : Nat} (l : List (Nat × Nat × Ob)) (e : s'.ob = obs n l) (ho : obsOk s.ob l) (h : LeTr (rho l) s.tm s'.tm) : Snd s s' :=
  Le.snd (ρ := rho l) ⟨leTr_len _ _ _ h, fun t => leTr_get _ _ _ h t, fun o ob hd => by
      unfold St.obj at hd ⊢
      rw [e] at hd
      obtain ⟨p, hp, h1, h2, h3⟩ := obs_get n l o ob hd
      rw [← h2, ← h3]
      exact (obsOk_at l ho p hp).1,
    fun o d hd => by
      unfold St.obj at hd
      rw [e] at hd
      obtain ⟨p, hp, h1, h2, h3⟩ := obs_get n l o _ hd
      rw [← h2, ← h1]
      exact ((obsOk_at l ho p hp).2 (by rw [h3]; rfl)).symm,
    fun o sz e' cp xs hd => by
      unfold St.obj at hd
      rw [e] at hd
      obtain ⟨p, hp, h1, h2, h3⟩ := obs_get n l o _ hd
      rw [← h2, ← h1]
      exact ((obsOk_at l ho p hp).2 (by rw [h3]; rfl)).symm,
    fun o o' ob ob' h1 h2 he => by
      unfold St.obj at h1 h2
      rw [e] at h1 h2
      obtain ⟨p, hp, p1, p2, _⟩ := obs_get n l o _ h1
      obtain ⟨q, hq, q1, q2, _⟩ := obs_get n l o' _ h2
      rw [← p1, ← q1]
      exact obsOk_inj l ho p hp q hq (by rw [p2, q2, he])⟩
attribute [simp] LeTr rho obsOk Ob.isP X.ren Rv.ren
end Go.Proofs.YtdkgkcnllhcamaaGreat.Ae

/-! impl.shiftMag: digits times a power of 2. No condition. -/
namespace Go.Proofs.YtdkgkcnllhcamaaGreat.Ae
open Go Go.RowKit Go.Proofs.YtdkgkcnllhcamaaGreat.Dig
variable {N : NR}

theorem or_low (c x s : Nat) (hc : c < 2 ^ s) : c ||| (x * 2 ^ s) = c + x * 2 ^ s := by
  have := Nat.two_pow_add_eq_or_of_lt (i := s) hc x
  rw [Nat.or_comm, Nat.mul_comm, ← this, Nat.add_comm]
def shE (p : N2) : List D := [eM p.a, .lit (.int .u64 p.b)]
theorem shE_inj (p q : N2) (h : shE p = shE q) : p = q := by
  obtain ⟨a, b⟩ := p; obtain ⟨c, d⟩ := q
  simp only [shE, List.cons.injEq, and_true] at h
  have h2 := h.2
  injection h2 with h2
  injection h2 with _ h2
  rw [eM_inj h.1, Int.ofNat.inj h2]
noncomputable def shiftC := ctD shE (fun p => Sm p.a ∧ p.b < 2 ^ 40) (fun p => [eM (p.a * 2 ^ p.b)])
theorem shiftC_at (a b : Nat) : shiftC [eM a, .lit (.int .u64 b)] = (Sm a ∧ b < 2 ^ 40, [eM (a * 2 ^ b)]) := ctD_at shE_inj ⟨a, b⟩
def shiftS (a b : Nat) (os : List Nat) (c i : Nat) : St := ⟨[.dat (eM a), .dat (.lit (.int .u64 b)), .any, .any, .any, .row 19, .dat (.lit (.int .u64 c)), .any, .any, .any, .any, .any, .any, .any, .any, .any, .any, .any, .any, .any, .dat (eM a), .dat (.lit (.int .i64 (mag a).length)), .dat (.lit (.int .i64 i)), .any, .any, .any, .any, .any, .any, .any, .any, .any, .any, .any, .any, .any, .any, .any, .any, .any, .any, .any, .any, .any, .any, .any, .any], [none, none, none, none, none, none, none, none, none, none, none, none, none, none, none, none, none, none, none, some (.row 1 72 (os.map dg)), none, none, none, none, none, none, none, none, none, none, none, none, none, none, none, none, none, none, none, none, none, none, none, none, none, none, none]⟩

theorem shiftMag_spec : SpecD N Tryz.prog 106 shiftC := by
  refine rdD (mf := fun f => f == 93) (tbl_cons (f := 93) (c := .data trimC) trimmed_spec trimmed_ok tbl_nil) (fn := Tryz.f106) (by kernel_rfl) rfl (by kernel_rfl) ?_
  rintro ⟨a, b⟩ ⟨ha, hb⟩
  refine ⟨by show 2 ≤ 47; decide, ?_⟩
  simp only [shE, Tryz.f106]
  simp only [Sm] at ha hb
  generalize hres : a * 2 ^ b = res
  obtain ⟨w, hw⟩ : ∃ w, w = b / 32 := ⟨_, rfl⟩
  obtain ⟨s, hs⟩ : ∃ s, s = b % 32 := ⟨_, rfl⟩
  have hs32 : s < 32 := by rw [hs]; exact Nat.mod_lt _ (by decide)
  have hbw : b = 32 * w + s := by rw [hw, hs]; exact (Nat.div_add_mod b 32).symm
  have r1 : Int.tdiv (b : Int) 32 = (w : Int) := by rw [hw]; exact tdiv_nat b 32
  have r2 : Int.tmod (b : Int) 32 = (s : Int) := by rw [hs]; exact tmod_nat b 32
  have r3 : IntKind.u64.wrap (w : Int) = w := by rw [wrap_u64]; omega
  have r4 : IntKind.i64.wrap (w : Int) = w := by rw [wrap_i64]; omega
  have r5 : IntKind.i64.wrap (((mag a).length : Int) + w) = (mag a).length + w := by rw [wrap_i64]; omega
  have r6 : IntKind.i64.wrap (((mag a).length : Int) + w + 1) = (mag a).length + w + 1 := by rw [wrap_i64]; omega
  have h2s : 2 ^ s ≤ 2 ^ 31 := Nat.pow_le_pow_right (by decide) (by omega)
  have hBw : B ^ w * 2 ^ s = 2 ^ b := by
    have : B = 2 ^ 32 := by decide
    rw [this, ← Nat.pow_mul, ← Nat.pow_add, hbw]
  simp [eM, eW, r1, r2, r3, r4, r5, r6]
  refine ⟨by omega, ?_⟩
  refine loop_go (fun n st => ∃ (os : List Nat) (i c : Nat), Digs os ∧ os.length = w + i ∧ i + n = (mag a).length ∧ c < 2 ^ s ∧ val os + B ^ os.length * c = 2 ^ b * val ((mag a).take i) ∧ st = shiftS a b os c i) (s0 := shiftS a b (List.replicate w 0) 0 0) (n := (mag a).length)
    (snd_of (by simp [LeT, shiftS, eM, eW]) (by simp [shiftS, dg])) ⟨_, 0, 0, Digs.zeros _, by simp, by simp, Nat.pow_pos (by decide), by simp [val_zeros, val], rfl⟩ ?_
  rintro n st ⟨os, i, c, hos, hol, hl, hc, hv, rfl⟩ KN hN
  cases n with
  | zero =>
    have e3 : (i : Int) = (mag a).length := by omega
    have e4 : IntKind.u32.wrap (c : Int) = c := by rw [wrap_u32]; omega
    have hcB : c < B := by simp only [B]; omega
    have t1 := trimC_at' (os ++ [c]) (hos.append (Digs.nil.cons hcB))
    have e1 : val (os ++ [c]) = res := by rw [val_snoc, hv, val_take_all _ _ (by omega), val_mag, ← hres, Nat.mul_comm]
    simp [dg] at t1
    simp [shiftS, eM, eW, e3, e4, t1, e1, dg]
    have := maxLen_ge
    omega
  | succ k =>
    obtain ⟨x, hx⟩ : ∃ x, x = (mag a).getD i 0 := ⟨_, rfl⟩
    have hxB : x < 4294967296 := by rw [hx]; exact getD_lt (mag_digs a) _
    have hi : i < (mag a).length := by omega
    have e1 := ix_dg _ _ hi
    rw [← hx] at e1
    have q0 : IntKind.u64.wrap (x : Int) = x := by rw [wrap_u64]; omega
    have q1 : min s 64 = s := by omega
    obtain ⟨y, hy⟩ : ∃ y, y = x * 2 ^ s := ⟨_, rfl⟩
    have hyB : y ≤ 4294967295 * 2 ^ 31 := by rw [hy]; exact Nat.mul_le_mul (by omega) h2s
    have q2 : IntKind.u64.wrap ((x : Int) * 2 ^ s) = y := by
      have : (x : Int) * 2 ^ s = y := by rw [hy]; simp
      rw [this, wrap_u64]; omega
    obtain ⟨h, hh⟩ : ∃ h, h = c + y := ⟨_, rfl⟩
    have q3 : bOr .u64 (c : Int) y = h := by
      rw [bOr64 c y (by omega) (by omega), hy, or_low c x s hc, hh, hy]
    obtain ⟨c', d, hd, hcut, w1, w2⟩ := cut32 (h : Int) h rfl
    have q4 : IntKind.i64.wrap ((i : Int) + 1) = i + 1 := by rw [wrap_i64]; omega
    have q5 : (i : Int) < (mag a).length := by omega
    simp [shiftS, eM, eW, e1, dg, r2, q0, q1, q2, q3, q4, q5, w1, w2]
    have hmx := maxLen_ge
    refine ⟨by omega, hN _ (nx (m := k) (s'' := shiftS a b (os ++ [d]) c' (i + 1)) (snd_obs (n := 47) [(19, 37, .row 1 72 ((os ++ [d]).map dg))] rfl (by simp [dg]) (by simp [shiftS, eM, eW])) ⟨_, _, _, hos.append (Digs.nil.cons hd), ?_, ?_, ?_, ?_, rfl⟩ (by omega))⟩
    · simp only [List.length_append, List.length_singleton]; omega
    · omega
    · have h1 : h < 2 ^ s * 4294967296 := by
        have h3 : (x + 1) * 2 ^ s ≤ 4294967296 * 2 ^ s := Nat.mul_le_mul_right _ hxB
        rw [Nat.add_mul, ← hy] at h3
        omega
      have h2 : B * c' < B * 2 ^ s := by simp only [B] at *; omega
      exact Nat.lt_of_mul_lt_mul_left h2
    · rw [val_snoc, List.length_append, List.length_singleton, Nat.pow_succ, Nat.mul_assoc, Nat.add_assoc, ← Nat.mul_add, hcut, hh, hy, val_take_getD, ← hx]
      have h3 : B ^ os.length * (x * 2 ^ s) = 2 ^ b * (B ^ i * x) := by
        rw [← hBw, hol, Nat.pow_add]; simp only [Nat.mul_assoc, Nat.mul_comm, Nat.mul_left_comm]
      rw [Nat.mul_add, Nat.mul_add, h3]
      omega
theorem shiftMag_ok : callable Tryz.prog 106 = true := by kernel_rfl
end Go.Proofs.YtdkgkcnllhcamaaGreat.Ae

/-! Contracts of functions that write a slice they are handed, or whose result is a new slice; impl.trimmed of a slice of the call's own. No condition. -/
namespace Go.Proofs.YtdkgkcnllhcamaaGreat.Ae
open Go Go.RowKit Go.Proofs.YtdkgkcnllhcamaaGreat.Dig
variable {N : NR}

section
variable {α : Type} {e : α → List D × Nat × Nat × List D} {pre : α → Prop} {post : α → Option Wr × List D}
open Classical in
noncomputable def ctW (e : α → List D × Nat × Nat × List D) (pre : α → Prop) (post : α → Option Wr × List D) : List D → Nat → Nat → List D → Prop × Option Wr × List D := fun xs lo n ds =>
  if h : ∃ a, e a = (xs, lo, n, ds) then (pre h.choose, post h.choose) else (False, none, [])
theorem ctW_at (inj : ∀ a b, e a = e b → a = b) (a : α) : ctW e pre post (e a).1 (e a).2.1 (e a).2.2.1 (e a).2.2.2 = (pre a, post a) := by
  unfold ctW
  have h : ∃ b, e b = ((e a).1, (e a).2.1, (e a).2.2.1, (e a).2.2.2) := ⟨a, rfl⟩
  rw [dif_pos h, inj _ _ h.choose_spec]
theorem ctW_pre {xs : List D} {lo n : Nat} {ds : List D} (h : (ctW e pre post xs lo n ds).1) : ∃ a, e a = (xs, lo, n, ds) ∧ pre a ∧ ctW e pre post xs lo n ds = (pre a, post a) := by
  unfold ctW at h ⊢
  by_cases hh : ∃ a, e a = (xs, lo, n, ds)
  · rw [dif_pos hh] at h ⊢
    exact ⟨_, hh.choose_spec, h, rfl⟩
  · rw [dif_neg hh] at h
    exact h.elim
end
/-- A function's contract out of its reading: it writes a part of a slice. -/
theorem rdW {α : Type} {e : α → List D × Nat × Nat × List D} {pre : α → Prop} {post : α → Option Wr × List D} {f : FuncId} {fn : Func} {c : Code} {mf : FuncId → Bool} {tb : FuncId → Option Ct} {sz : Nat} {t : TypeId} (htb : TbOK N Tryz.prog tb) (hf : Tryz.prog.funcs[f]? = some fn) (hb : fn.body = some c) (hd : drawAll mf c = true)
    (h : ∀ a cp, pre a → 0 < (e a).1.length → (e a).2.1 + (e a).2.2.1 ≤ (e a).1.length → (0 < (e a).2.2.1 ∨ (e a).2.1 = 0) → (e a).2.2.2.length + 1 ≤ fn.ntmps ∧ (post a).2.length = (e a).1.length ∧
      awp Tryz.prog mf tb c (startW fn.ntmps (e a).2.1 (e a).2.2.1 (e a).2.2.2 sz t cp (e a).1) (endW Tryz.prog fn.ntmps fn.results.toList (post a).1 sz t cp (post a).2)) : SpecW N Tryz.prog f sz t (ctW e pre post) := by
  refine specW_of hf hb (fun xs lo n ds hp h0 hle hnl => ?_)
  obtain ⟨a, he, h1, h2⟩ := ctW_pre hp
  rw [h2]
  have hxs : xs = (e a).1 := by rw [he]
  have hlo : lo = (e a).2.1 := by rw [he]
  have hn : n = (e a).2.2.1 := by rw [he]
  have hds : ds = (e a).2.2.2 := by rw [he]
  subst hxs hlo hn hds
  exact ⟨(h a 0 h1 h0 hle hnl).1, (h a 0 h1 h0 hle hnl).2.1, fun cp => awp_sound htb mo _ _ _ hd (h a cp h1 h0 hle hnl).2.2⟩
/-- A function's contract out of its reading: its result is a new slice. -/
theorem rdO {α : Type} {e : α → List D} {pre : α → Prop} {post : α → List D} {f : FuncId} {fn : Func} {c : Code} {mf : FuncId → Bool} {tb : FuncId → Option Ct} {sz : Nat} {t : TypeId} (hsz : 0 < sz) (htb : TbOK N Tryz.prog tb) (hf : Tryz.prog.funcs[f]? = some fn) (hb : fn.body = some c) (hd : drawAll mf c = true)
    (h : ∀ a, pre a → (e a).length ≤ fn.ntmps ∧ (post a).all D.isLit = true ∧ awp Tryz.prog mf tb c (start fn.ntmps ((e a).map .dat) []) (endO fn.results.toList sz t (post a))) : SpecO N Tryz.prog f sz t (ctD e pre post) := by
  refine specO_of hf hb hsz (fun ds hp => ?_)
  obtain ⟨a, rfl, h1, h2⟩ := ctD_pre hp
  rw [h2]
  exact ⟨(h a h1).1, (h a h1).2.1, awp_sound htb mo _ _ _ hd (h a h1).2.2⟩
@[simp] theorem startW_mk (nt lo n : Nat) (ds : List D) (sz : Nat) (t : TypeId) (cp : Nat) (xs : List D) : startW nt lo n ds sz t cp xs = ⟨.win nt lo n :: (ds.map .dat ++ nX (nt - (ds.length + 1))), nO nt ++ [some (.prow sz t cp xs)]⟩ := rfl

/-! impl.trimmed of a part of a slice -/
structure Dw where
  xs : List Nat
  lo : Nat
  n : Nat
def dwE (p : Dw) : List D × Nat × Nat × List D := (p.xs.map dg, p.lo, p.n, [])
theorem dwE_inj (p q : Dw) (h : dwE p = dwE q) : p = q := by
  obtain ⟨a, b, c⟩ := p; obtain ⟨d, e, f⟩ := q
  simp only [dwE, Prod.mk.injEq] at h
  rw [map_dg_inj h.1, h.2.1, h.2.2.1]
def part (xs : List Nat) (lo n : Nat) : List Nat := (xs.drop lo).take n
theorem part_len (xs : List Nat) (lo n : Nat) (h : lo + n ≤ xs.length) : (part xs lo n).length = n := by simp [part]; omega
theorem part_snoc (xs : List Nat) (lo n : Nat) (h : lo + (n + 1) ≤ xs.length) : part xs lo (n + 1) = part xs lo n ++ [xs.getD (lo + n) 0] := by
  have e : (xs.drop lo)[n]? = some (xs.getD (lo + n) 0) := by
    rw [List.getElem?_drop, List.getD_eq_getElem?_getD, List.getElem?_eq_getElem (by omega)]; rfl
  unfold part
  rw [Dig.take_succ _ _ _ e]
theorem part_digs {xs : List Nat} (h : Digs xs) (lo n : Nat) : Digs (part xs lo n) := (h.drop lo).take n
noncomputable def trimW := ctW dwE (fun p => Digs p.xs ∧ p.xs.length < 2 ^ 62 ∧ p.lo = 0) (fun p => (some (.win p.lo (mag (val (part p.xs p.lo p.n))).length), p.xs.map dg))
theorem trimW_at (xs : List Nat) (lo n : Nat) : trimW (xs.map dg) lo n [] = ((Digs xs ∧ xs.length < 2 ^ 62 ∧ lo = 0), some (.win lo (mag (val (part xs lo n))).length), xs.map dg) := ctW_at dwE_inj ⟨xs, lo, n⟩
def trimT (xs : List Nat) (cp lo n : Nat) : St := ⟨[.win 21 lo n, .any, .any, .any, .any, .any, .any, .any, .any, .any, .any, .any, .any, .any, .any, .any, .any, .any, .any, .any, .any], [none, none, none, none, none, none, none, none, none, none, none, none, none, none, none, none, none, none, none, none, none, some (.prow 1 72 cp (xs.map dg))]⟩

theorem trimmed_specW : SpecW N Tryz.prog 93 1 72 trimW := by
  refine rdW (mf := fun _ => false) tbl_nil (fn := Tryz.f93) (by kernel_rfl) rfl (by kernel_rfl) ?_
  rintro ⟨xs, lo, n⟩ cp ⟨hx, hlen, hlo⟩ h0 hle hnl
  refine ⟨by show 0 + 1 ≤ 21; decide, by simp [dwE], ?_⟩
  simp only [dwE, List.length_map] at h0 hle hnl
  have hx : Digs xs := hx
  have hlen : xs.length < 2 ^ 62 := hlen
  have hlo : lo = 0 := hlo
  simp only [dwE, Tryz.f93]
  simp
  refine loop_go (fun m s => m ≤ n ∧ val (part xs lo m) = val (part xs lo n) ∧ s = trimT xs cp lo m) (s0 := trimT xs cp lo n) (n := n) (snd_of (by simp [LeT, trimT]) rfl) ⟨Nat.le_refl _, rfl, rfl⟩ ?_
  rintro m s ⟨hm, hv, rfl⟩ KN hN
  cases m with
  | zero =>
    have e1 : mag (val (part xs lo n)) = [] := by rw [← hv]; simp [part, val, mag_zero]
    rw [hlo] at e1
    simp [trimT, hlo, e1]
  | succ m =>
    have e1 : IntKind.i64.wrap (m : Int) = m := by rw [wrap_i64]; omega
    have e2 : ix (xs.map dg) (lo + m) = some (dg (xs.getD (lo + m) 0)) := ix_dg _ _ (by omega)
    obtain ⟨y, hy⟩ : ∃ y, y = xs.getD (lo + m) 0 := ⟨_, rfl⟩
    rw [← hy] at e2
    have hs := part_snoc xs lo m (by omega)
    rw [← hy] at hs
    have hv2 := hv
    rw [hs] at hv2
    have e3 : lo + (m + 1) ≤ xs.length := by omega
    have e4 : (m : Int) ≤ (m : Int) + 1 := by omega
    simp [trimT, e1, e2, e3, e4, dg]
    refine ⟨fun h => hN _ (nx (m := m) (s'' := trimT xs cp lo m) (snd_of (by simp [LeT, trimT]) (by simp [trimT])) ⟨by omega, by rw [← hv2, h, val_snoc_zero], rfl⟩ (by omega)), fun h => ?_⟩
    have h5 : mag (val (part xs lo n)) = part xs lo m ++ [y] := by
      rw [← hv2]
      exact mag_val_snoc (by rw [← hs]; exact part_digs hx _ _) h
    rw [h5]
    simp [part_len xs lo m (by omega)]
theorem trimB_ok : CtOK N Tryz.prog 93 (.win 1 72 trimW trimC) := ⟨trimmed_specW, trimmed_spec⟩
end Go.Proofs.YtdkgkcnllhcamaaGreat.Ae

/-! impl.takeTimes, impl.giveBack: digits taken from others, and given back. No condition. -/
namespace Go.Proofs.YtdkgkcnllhcamaaGreat.Ae
open Go Go.RowKit Go.Proofs.YtdkgkcnllhcamaaGreat.Dig
variable {N : NR}

/-- A slice, a part of it, digits, a digit. -/
structure Tk where
  xs : List Nat
  lo : Nat
  n : Nat
  vs : List Nat
  t : Nat
def tkE (p : Tk) : List D × Nat × Nat × List D := (p.xs.map dg, p.lo, p.n, [eW p.vs, dg p.t])
theorem tkE_inj (p q : Tk) (h : tkE p = tkE q) : p = q := by
  obtain ⟨a, b, c, d, e⟩ := p; obtain ⟨a', b', c', d', e'⟩ := q
  simp only [tkE, Prod.mk.injEq, List.cons.injEq, and_true] at h
  rw [map_dg_inj h.1, h.2.1, h.2.2.1, eW_inj h.2.2.2.1, dg_inj h.2.2.2.2]
/-- The slice with another number in a part. -/
def put (xs : List Nat) (lo n x : Nat) : List Nat := xs.take lo ++ dig n x ++ xs.drop (lo + n)
def tkV (xs : List Nat) (lo n : Nat) (vs : List Nat) (t : Nat) : Nat := if val (part xs lo n) < t * val vs then val (part xs lo n) + B ^ n - t * val vs else val (part xs lo n) - t * val vs
noncomputable def takeW := ctW tkE (fun p => Digs p.xs ∧ Digs p.vs ∧ p.t < B ∧ p.vs.length < p.n ∧ p.lo + p.n ≤ p.xs.length ∧ p.xs.length < 2 ^ 41)
  (fun p => (some (.dat (.lit (.bool (decide (val (part p.xs p.lo p.n) < p.t * val p.vs))))), (put p.xs p.lo p.n (tkV p.xs p.lo p.n p.vs p.t)).map dg))
theorem takeW_at (xs : List Nat) (lo n : Nat) (vs : List Nat) (t : Nat) : takeW (xs.map dg) lo n [eW vs, dg t] = ((Digs xs ∧ Digs vs ∧ t < B ∧ vs.length < n ∧ lo + n ≤ xs.length ∧ xs.length < 2 ^ 41),
  some (.dat (.lit (.bool (decide (val (part xs lo n) < t * val vs))))), (put xs lo n (tkV xs lo n vs t)).map dg) := ctW_at tkE_inj ⟨xs, lo, n, vs, t⟩

theorem ix_at (L R : List Nat) (y : Nat) : ix (List.map dg (L ++ y :: R)) L.length = some (dg y) := by
  have h : L.length = (List.map dg L).length := by simp
  rw [List.map_append]; unfold ix; rw [h, List.getElem?_append_right (Nat.le_refl _), Nat.sub_self]; rfl
theorem lset_at (L R : List Nat) (y d : Nat) : lset (List.map dg (L ++ y :: R)) L.length (.lit (.int .u32 (d : Int))) = List.map dg (L ++ d :: R) := by
  have h : L.length = (List.map dg L).length := by simp
  rw [List.map_append, List.map_append]; unfold lset; rw [h, List.set_append_right _ _ (Nat.le_refl _), Nat.sub_self]; rfl

def takeS (lo n cp : Nat) (vs : List Nat) (t : Nat) (Z : List Nat) (c bo i : Nat) : St := ⟨[.win 48 lo n, .dat (eW vs), .dat (dg t), .any, .any, .any, .any, .dat (.lit (.int .u64 c)), .dat (.lit (.int .u32 bo)), .any, .win 48 lo n, .dat (.lit (.int .i64 n)), .dat (.lit (.int .i64 i)), .any, .any, .any, .any, .any, .any, .any, .any, .any, .any, .any, .any, .any, .any, .any, .any, .any, .any, .any, .any, .any, .any, .any, .any, .any, .any, .any, .any, .any, .any, .any, .any, .any, .any, .any], [none, none, none, none, none, none, none, none, none, none, none, none, none, none, none, none, none, none, none, none, none, none, none, none, none, none, none, none, none, none, none, none, none, none, none, none, none, none, none, none, none, none, none, none, none, none, none, none, some (.prow 1 72 cp (Z.map dg))]⟩

theorem takeTimes_specW : SpecW N Tryz.prog 107 1 72 takeW := by
  refine rdW (mf := fun _ => false) (tbl_cons (f := 94) (c := .data sub32C) sub32_spec sub32_ok tbl_nil) (fn := Tryz.f107) (by kernel_rfl) rfl (by kernel_rfl) ?_
  rintro ⟨xs, lo, n, vs, t⟩ cp hpre h0 _ hnl
  obtain ⟨hx, hvs, ht, hnv, hle, hlen⟩ : Digs xs ∧ Digs vs ∧ t < B ∧ vs.length < n ∧ lo + n ≤ xs.length ∧ xs.length < 2 ^ 41 := hpre
  refine ⟨by show 2 + 1 ≤ 48; decide, by simp [tkE, put, dig_len]; omega, ?_⟩
  simp only [tkE, Tryz.f107]
  simp [eW, dg]
  refine loop_go (fun m s => ∃ (os : List Nat) (c bo : Nat), Digs os ∧ c < B ∧ bo ≤ 1 ∧ os.length + m = n ∧ (vs.length < os.length → c = 0) ∧ val os + t * val (vs.take os.length) = val (part xs lo os.length) + B ^ os.length * (bo + c) ∧
      s = takeS lo n cp vs t (xs.take lo ++ os ++ xs.drop (lo + os.length)) c bo os.length) (s0 := takeS lo n cp vs t xs 0 0 0) (n := n) (snd_of (by simp [LeT, takeS, eW, dg]) (by simp [takeS])) ⟨[], 0, 0, Digs.nil, B_pos, by omega, by simp, by simp, by simp [val, part], by simp⟩ ?_
  rintro m s ⟨os, c, bo, hos, hc, hbo, hl, hcz, hv, rfl⟩ KN hN
  simp only [B] at hc ht
  cases m with
  | zero =>
    have hc0 : c = 0 := hcz (by omega)
    have hln : os.length = n := by omega
    have hvl := val_lt hos
    rw [hln] at hv hvl
    rw [List.take_of_length_le (by omega), hc0, Nat.add_zero] at hv
    have hW : val (part xs lo n) < B ^ n := by have := val_lt (part_digs hx lo n); rwa [part_len xs lo n hle] at this
    have hcase : (bo = 1 ∧ val (part xs lo n) < t * val vs ∧ val os = val (part xs lo n) + B ^ n - t * val vs) ∨ (bo = 0 ∧ ¬ val (part xs lo n) < t * val vs ∧ val os = val (part xs lo n) - t * val vs) := by
      rcases Nat.le_one_iff_eq_zero_or_eq_one.1 hbo with rfl | rfl
      · right; exact ⟨rfl, by omega, by omega⟩
      · left; exact ⟨rfl, by omega, by omega⟩
    have hput : put xs lo n (tkV xs lo n vs t) = xs.take lo ++ os ++ xs.drop (lo + n) := by
      have : tkV xs lo n vs t = val os := by
        unfold tkV
        rcases hcase with ⟨_, h1, h2⟩ | ⟨_, h1, h2⟩
        · rw [if_pos h1, h2]
        · rw [if_neg h1, h2]
      rw [put, this, dig_of hos hln rfl]
    rw [hput, hln]
    generalize xs.take lo ++ os ++ xs.drop (lo + n) = Z
    rcases hcase with ⟨rfl, h1, _⟩ | ⟨rfl, h1, _⟩
    · simp [takeS, eW, dg, h1]
    · simp [takeS, eW, dg, h1]
  | succ m =>
    obtain ⟨x, hxx⟩ : ∃ x, x = xs.getD (lo + os.length) 0 := ⟨_, rfl⟩
    obtain ⟨v, hvv⟩ : ∃ v, v = vs.getD os.length 0 := ⟨_, rfl⟩
    have hxB : x < B := by rw [hxx]; exact getD_lt hx _
    have hvB : v < B := by rw [hvv]; exact getD_lt hvs _
    have hR : xs.drop (lo + os.length) = x :: xs.drop (lo + os.length + 1) := by
      rw [List.drop_eq_getElem_cons (by omega : lo + os.length < xs.length), hxx, List.getD_eq_getElem?_getD, List.getElem?_eq_getElem (by omega)]; rfl
    have hL : (xs.take lo ++ os).length = lo + os.length := by simp; omega
    generalize hLL : xs.take lo ++ os = L at *
    rw [hR]
    have e1 := ix_at L (xs.drop (lo + os.length + 1)) x
    rw [hL] at e1
    simp only [B] at hvB
    have htv : t * v ≤ 4294967295 * 4294967295 := Nat.mul_le_mul (by omega) (by omega)
    obtain ⟨p, hp⟩ : ∃ p, p = c + t * v := ⟨_, rfl⟩
    obtain ⟨c', lp, hlp, hcut, w1, w2⟩ := cut32 (p : Int) p rfl
    have s1 := sub32C_at x lp bo
    obtain ⟨d, hd⟩ : ∃ d : Nat, d = (x + B - lp - bo) % B := ⟨_, rfl⟩
    obtain ⟨bo', hbo'⟩ : ∃ b : Nat, b = if x < lp + bo then 1 else 0 := ⟨_, rfl⟩
    have hsub : d + lp + bo = x + B * bo' := by rw [hd, hbo']; exact borrow_eq x lp bo hxB hlp hbo
    have hdB : d < B := by rw [hd]; exact Nat.mod_lt _ B_pos
    rw [← hd, ← hbo'] at s1
    simp only [dg, hxB, hlp, hbo, and_self] at s1
    have e2 := lset_at L (xs.drop (lo + os.length + 1)) x d
    rw [hL] at e2
    have q1 : IntKind.u64.wrap (t : Int) = t := by rw [wrap_u64]; omega
    have q2 : IntKind.u64.wrap (v : Int) = v := by rw [wrap_u64]; omega
    obtain ⟨tv, htv'⟩ : ∃ tv, tv = t * v := ⟨_, rfl⟩
    have q3 : (t : Int) * v = tv := by rw [htv']; exact (Int.natCast_mul _ _).symm
    have q4 : IntKind.u64.wrap (tv : Int) = tv := by rw [wrap_u64]; omega
    have q5 : IntKind.u64.wrap ((c : Int) + tv) = p := by rw [wrap_u64]; omega
    have q6 : IntKind.i64.wrap ((os.length : Int) + 1) = os.length + 1 := by rw [wrap_i64]; omega
    have q7 : (os.length : Int) < n := by omega
    have hZl : (L ++ x :: xs.drop (lo + os.length + 1)).length = xs.length := by
      rw [List.length_append, List.length_cons, List.length_drop, hL]; omega
    have hnext : ∀ c2, c2 = c' → ∀ s', Snd s' (takeS lo n cp vs t (L ++ d :: xs.drop (lo + os.length + 1)) c2 bo' (os.length + 1)) → (vs.length < os.length + 1 → c' = 0) → p + 0 = c + t * v → KN s' := by
      rintro c2 rfl s' hs hz hpv
      refine hN _ (nx (m := m) (s'' := takeS lo n cp vs t (L ++ d :: xs.drop (lo + os.length + 1)) c2 bo' (os.length + 1)) hs ⟨os ++ [d], c2, bo', hos.append (Digs.nil.cons hdB), ?_, ?_, ?_, ?_, ?_, ?_⟩ (by omega))
      · simp only [B] at hcut ⊢; omega
      · rw [hbo']; split <;> omega
      · simp only [List.length_append, List.length_singleton]; omega
      · simp only [List.length_append, List.length_singleton]; exact hz
      · rw [val_snoc, List.length_append, List.length_singleton, val_take_getD, ← hvv, part_snoc xs lo _ (by omega), val_snoc, part_len xs lo _ (by omega), ← hxx, Nat.pow_succ]
        have h1 := congrArg (B ^ os.length * ·) hsub
        have h2 := congrArg (B ^ os.length * ·) (hcut.trans hp)
        simp only [Nat.mul_add] at h1 h2 hv ⊢
        have h3 : t * (B ^ os.length * v) = B ^ os.length * (t * v) := by simp only [Nat.mul_left_comm]
        have h4 : B ^ os.length * B * bo' = B ^ os.length * (B * bo') := Nat.mul_assoc _ _ _
        have h5 : B ^ os.length * B * c2 = B ^ os.length * (B * c2) := Nat.mul_assoc _ _ _
        rw [h3, h4, h5]
        omega
      · rw [← hLL, List.length_append, List.length_singleton, ← Nat.add_assoc]
        simp only [List.append_assoc, List.singleton_append]
    generalize hZ : L ++ x :: xs.drop (lo + os.length + 1) = Z at *
    generalize hZ' : L ++ d :: xs.drop (lo + os.length + 1) = Z' at *
    have q8 : lo + n ≤ Z.length := by omega
    by_cases hvl : os.length < vs.length
    · have e3 := ix_dg _ _ hvl
      rw [← hvv] at e3
      simp [takeS, eW, dg, hvl, e3, e1, e2, q1, q2, q3, q4, q5, q6, q7, q8, w1, w2, s1]
      exact hnext _ rfl _ (snd_of (by simp [LeT, takeS, eW, dg]) (by simp [takeS])) (by omega) (by omega)
    · have hv0 : v = 0 := by rw [hvv]; exact getD_out _ _ hvl
      have hpc : p = c := by rw [hp, hv0]; omega
      have w3 : IntKind.u32.wrap (c : Int) = lp := by rw [← hpc]; exact w1
      have w4 : (c : Int) / 4294967296 = c' := by rw [← hpc]; exact w2
      simp [takeS, eW, dg, hvl, e1, e2, q6, q7, q8, w3, w4, s1]
      exact hnext _ rfl _ (snd_of (by simp [LeT, takeS, eW, dg]) (by simp [takeS])) (fun _ => by simp only [B] at hcut; omega) (by omega)
theorem takeTimes_ok : callable Tryz.prog 107 = true := by kernel_rfl
end Go.Proofs.YtdkgkcnllhcamaaGreat.Ae

/-! impl.giveBack: digits given back to others. No condition. -/
namespace Go.Proofs.YtdkgkcnllhcamaaGreat.Ae
open Go Go.RowKit Go.Proofs.YtdkgkcnllhcamaaGreat.Dig
variable {N : NR}

structure Gb where
  xs : List Nat
  lo : Nat
  n : Nat
  vs : List Nat
def gbE (p : Gb) : List D × Nat × Nat × List D := (p.xs.map dg, p.lo, p.n, [eW p.vs])
theorem gbE_inj (p q : Gb) (h : gbE p = gbE q) : p = q := by
  obtain ⟨a, b, c, d⟩ := p; obtain ⟨a', b', c', d'⟩ := q
  simp only [gbE, Prod.mk.injEq, List.cons.injEq, and_true] at h
  rw [map_dg_inj h.1, h.2.1, h.2.2.1, eW_inj h.2.2.2]
noncomputable def giveW := ctW gbE (fun p => Digs p.xs ∧ Digs p.vs ∧ p.vs.length ≤ p.n ∧ p.lo + p.n ≤ p.xs.length ∧ p.xs.length < 2 ^ 41)
  (fun p => (none, (put p.xs p.lo p.n ((val (part p.xs p.lo p.n) + val p.vs) % B ^ p.n)).map dg))
theorem giveW_at (xs : List Nat) (lo n : Nat) (vs : List Nat) : giveW (xs.map dg) lo n [eW vs] = ((Digs xs ∧ Digs vs ∧ vs.length ≤ n ∧ lo + n ≤ xs.length ∧ xs.length < 2 ^ 41),
  none, (put xs lo n ((val (part xs lo n) + val vs) % B ^ n)).map dg) := ctW_at gbE_inj ⟨xs, lo, n, vs⟩
def giveS (lo n cp : Nat) (vs : List Nat) (Z : List Nat) (c i : Nat) : St := ⟨[.win 34 lo n, .dat (eW vs), .any, .any, .dat (.lit (.int .u32 c)), .any, .any, .win 34 lo n, .dat (.lit (.int .i64 n)), .dat (.lit (.int .i64 i)), .any, .any, .any, .any, .any, .any, .any, .any, .any, .any, .any, .any, .any, .any, .any, .any, .any, .any, .any, .any, .any, .any, .any, .any], [none, none, none, none, none, none, none, none, none, none, none, none, none, none, none, none, none, none, none, none, none, none, none, none, none, none, none, none, none, none, none, none, none, none, some (.prow 1 72 cp (Z.map dg))]⟩

theorem giveBack_specW : SpecW N Tryz.prog 108 1 72 giveW := by
  refine rdW (mf := fun _ => false) (tbl_cons (f := 110) (c := .data add32C) add32_spec add32_ok tbl_nil) (fn := Tryz.f108) (by kernel_rfl) rfl (by kernel_rfl) ?_
  rintro ⟨xs, lo, n, vs⟩ cp hpre h0 _ hnl
  obtain ⟨hx, hvs, hnv, hle, hlen⟩ : Digs xs ∧ Digs vs ∧ vs.length ≤ n ∧ lo + n ≤ xs.length ∧ xs.length < 2 ^ 41 := hpre
  refine ⟨by show 1 + 1 ≤ 34; decide, by simp [gbE, put, dig_len]; omega, ?_⟩
  simp only [gbE, Tryz.f108]
  simp [eW, dg]
  refine loop_go (fun m s => ∃ (os : List Nat) (c : Nat), Digs os ∧ c ≤ 1 ∧ os.length + m = n ∧ val os + B ^ os.length * c = val (part xs lo os.length) + val (vs.take os.length) ∧
      s = giveS lo n cp vs (xs.take lo ++ os ++ xs.drop (lo + os.length)) c os.length) (s0 := giveS lo n cp vs xs 0 0) (n := n) (snd_of (by simp [LeT, giveS, eW, dg]) (by simp [giveS])) ⟨[], 0, Digs.nil, by omega, by simp, by simp [val, part], by simp⟩ ?_
  rintro m s ⟨os, c, hos, hc, hl, hv, rfl⟩ KN hN
  cases m with
  | zero =>
    have hln : os.length = n := by omega
    have hvl := val_lt hos
    rw [hln] at hv hvl
    rw [List.take_of_length_le (by omega)] at hv
    have hput : put xs lo n ((val (part xs lo n) + val vs) % B ^ n) = xs.take lo ++ os ++ xs.drop (lo + n) := by
      have : (val (part xs lo n) + val vs) % B ^ n = val os := by rw [← hv, Nat.add_mul_mod_self_left, Nat.mod_eq_of_lt hvl]
      rw [put, this, dig_of hos hln rfl]
    rw [hput, hln]
    generalize xs.take lo ++ os ++ xs.drop (lo + n) = Z
    simp [giveS, eW, dg]
  | succ m =>
    obtain ⟨x, hxx⟩ : ∃ x, x = xs.getD (lo + os.length) 0 := ⟨_, rfl⟩
    obtain ⟨v, hvv⟩ : ∃ v, v = vs.getD os.length 0 := ⟨_, rfl⟩
    have hxB : x < B := by rw [hxx]; exact getD_lt hx _
    have hvB : v < B := by rw [hvv]; exact getD_lt hvs _
    have hR : xs.drop (lo + os.length) = x :: xs.drop (lo + os.length + 1) := by
      rw [List.drop_eq_getElem_cons (by omega : lo + os.length < xs.length), hxx, List.getD_eq_getElem?_getD, List.getElem?_eq_getElem (by omega)]; rfl
    have hL : (xs.take lo ++ os).length = lo + os.length := by simp; omega
    generalize hLL : xs.take lo ++ os = L at *
    rw [hR]
    have e1 := ix_at L (xs.drop (lo + os.length + 1)) x
    rw [hL] at e1
    have s1 := add32C_at x v c
    obtain ⟨d, hd⟩ : ∃ d : Nat, d = (x + v + c) % B := ⟨_, rfl⟩
    obtain ⟨c', hc'⟩ : ∃ c' : Nat, c' = (x + v + c) / B := ⟨_, rfl⟩
    have hsum : d + B * c' = x + v + c := by rw [hd, hc']; exact Nat.mod_add_div _ _
    have hdB : d < B := by rw [hd]; exact Nat.mod_lt _ B_pos
    rw [← hd, ← hc'] at s1
    simp only [dg, hxB, hvB, hc, and_self] at s1
    have e2 := lset_at L (xs.drop (lo + os.length + 1)) x d
    rw [hL] at e2
    have q6 : IntKind.i64.wrap ((os.length : Int) + 1) = os.length + 1 := by rw [wrap_i64]; omega
    have q7 : (os.length : Int) < n := by omega
    have hZl : (L ++ x :: xs.drop (lo + os.length + 1)).length = xs.length := by
      rw [List.length_append, List.length_cons, List.length_drop, hL]; omega
    have hnext : ∀ s', Snd s' (giveS lo n cp vs (L ++ d :: xs.drop (lo + os.length + 1)) c' (os.length + 1)) → KN s' := by
      intro s' hs
      refine hN _ (nx (m := m) (s'' := giveS lo n cp vs (L ++ d :: xs.drop (lo + os.length + 1)) c' (os.length + 1)) hs ⟨os ++ [d], c', hos.append (Digs.nil.cons hdB), ?_, ?_, ?_, ?_⟩ (by omega))
      · simp only [B] at hsum hxB hvB; omega
      · simp only [List.length_append, List.length_singleton]; omega
      · rw [val_snoc, List.length_append, List.length_singleton, val_take_getD, ← hvv, part_snoc xs lo _ (by omega), val_snoc, part_len xs lo _ (by omega), ← hxx, Nat.pow_succ]
        have h1 := congrArg (B ^ os.length * ·) hsum
        simp only [Nat.mul_add] at h1 hv ⊢
        have h5 : B ^ os.length * B * c' = B ^ os.length * (B * c') := Nat.mul_assoc _ _ _
        rw [h5]
        omega
      · rw [← hLL, List.length_append, List.length_singleton, ← Nat.add_assoc]
        simp only [List.append_assoc, List.singleton_append]
    generalize hZ : L ++ x :: xs.drop (lo + os.length + 1) = Z at *
    generalize hZ' : L ++ d :: xs.drop (lo + os.length + 1) = Z' at *
    have q8 : lo + n ≤ Z.length := by omega
    by_cases hvl : os.length < vs.length
    · have e3 := ix_dg _ _ hvl
      rw [← hvv] at e3
      simp [giveS, eW, dg, hvl, e3, e1, e2, q6, q7, q8, s1]
      exact hnext _ (snd_of (by simp [LeT, giveS, eW, dg]) (by simp [giveS]))
    · have hv0 : v = 0 := by rw [hvv]; exact getD_out _ _ hvl
      rw [hv0] at s1
      simp at s1
      simp [giveS, eW, dg, hvl, e1, e2, q6, q7, q8, s1]
      exact hnext _ (snd_of (by simp [LeT, giveS, eW, dg]) (by simp [giveS]))
theorem giveBack_ok : callable Tryz.prog 108 = true := by kernel_rfl
end Go.Proofs.YtdkgkcnllhcamaaGreat.Ae

/-! impl.shiftMag: its result is a new slice. No condition. -/
namespace Go.Proofs.YtdkgkcnllhcamaaGreat.Ae
open Go Go.RowKit Go.Proofs.YtdkgkcnllhcamaaGreat.Dig
variable {N : NR}

noncomputable def shiftO := ctD shE (fun p => Sm p.a ∧ p.b < 2 ^ 40) (fun p => (mag (p.a * 2 ^ p.b)).map dg)
theorem shiftO_at (a b : Nat) : shiftO [eM a, .lit (.int .u64 b)] = ((Sm a ∧ b < 2 ^ 40), (mag (a * 2 ^ b)).map dg) := ctD_at shE_inj ⟨a, b⟩

theorem shiftMag_specO : SpecO N Tryz.prog 106 1 72 shiftO := by
  refine rdO (by decide) (mf := fun f => f == 93) (tbl_cons (f := 93) (c := .win 1 72 trimW trimC) trimB_ok trimmed_ok tbl_nil) (fn := Tryz.f106) (by kernel_rfl) rfl (by kernel_rfl) ?_
  rintro ⟨a, b⟩ ⟨ha, hb⟩
  refine ⟨by show 2 ≤ 47; decide, List.all_eq_true.2 (fun d hd => by obtain ⟨k, _, rfl⟩ := List.mem_map.1 hd; rfl), ?_⟩
  simp only [shE, Tryz.f106]
  simp only [Sm] at ha hb
  generalize hres : a * 2 ^ b = res
  obtain ⟨w, hw⟩ : ∃ w, w = b / 32 := ⟨_, rfl⟩
  obtain ⟨s, hs⟩ : ∃ s, s = b % 32 := ⟨_, rfl⟩
  have hs32 : s < 32 := by rw [hs]; exact Nat.mod_lt _ (by decide)
  have hbw : b = 32 * w + s := by rw [hw, hs]; exact (Nat.div_add_mod b 32).symm
  have r1 : Int.tdiv (b : Int) 32 = (w : Int) := by rw [hw]; exact tdiv_nat b 32
  have r2 : Int.tmod (b : Int) 32 = (s : Int) := by rw [hs]; exact tmod_nat b 32
  have r3 : IntKind.u64.wrap (w : Int) = w := by rw [wrap_u64]; omega
  have r4 : IntKind.i64.wrap (w : Int) = w := by rw [wrap_i64]; omega
  have r5 : IntKind.i64.wrap (((mag a).length : Int) + w) = (mag a).length + w := by rw [wrap_i64]; omega
  have r6 : IntKind.i64.wrap (((mag a).length : Int) + w + 1) = (mag a).length + w + 1 := by rw [wrap_i64]; omega
  have h2s : 2 ^ s ≤ 2 ^ 31 := Nat.pow_le_pow_right (by decide) (by omega)
  have hBw : B ^ w * 2 ^ s = 2 ^ b := by
    have : B = 2 ^ 32 := by decide
    rw [this, ← Nat.pow_mul, ← Nat.pow_add, hbw]
  simp [eM, eW, r1, r2, r3, r4, r5, r6]
  refine ⟨by omega, ?_⟩
  refine loop_go (fun n st => ∃ (os : List Nat) (i c : Nat), Digs os ∧ os.length = w + i ∧ i + n = (mag a).length ∧ c < 2 ^ s ∧ val os + B ^ os.length * c = 2 ^ b * val ((mag a).take i) ∧ st = shiftS a b os c i) (s0 := shiftS a b (List.replicate w 0) 0 0) (n := (mag a).length)
    (snd_of (by simp [LeT, shiftS, eM, eW]) (by simp [shiftS, dg])) ⟨_, 0, 0, Digs.zeros _, by simp, by simp, Nat.pow_pos (by decide), by simp [val_zeros, val], rfl⟩ ?_
  rintro n st ⟨os, i, c, hos, hol, hl, hc, hv, rfl⟩ KN hN
  cases n with
  | zero =>
    have e3 : (i : Int) = (mag a).length := by omega
    have e4 : IntKind.u32.wrap (c : Int) = c := by rw [wrap_u32]; omega
    have hcB : c < B := by simp only [B]; omega
    have t1 := trimW_at (os ++ [c]) 0 (os.length + 1)
    have hdg := hos.append (Digs.nil.cons hcB)
    have hpt : part (os ++ [c]) 0 (os.length + 1) = os ++ [c] := by unfold part; rw [List.drop_zero, List.take_of_length_le (by simp)]
    rw [hpt] at t1
    have e1 : val (os ++ [c]) = res := by rw [val_snoc, hv, val_take_all _ _ (by omega), val_mag, ← hres, Nat.mul_comm]
    rw [e1] at t1
    have t2 : (List.map dg (os ++ [c])) = List.map dg os ++ [D.lit (.int .u32 c)] := by simp [dg]
    rw [t2] at t1
    have hml : (mag res).length ≤ os.length + 1 := by
      have := val_lt hdg
      rw [e1] at this
      have h2 := mag_lt.2 this
      simpa using h2
    have htk : (List.map dg os ++ [D.lit (.int .u32 c)]).take (mag res).length = (mag res).map dg := by
      rw [← t2, ← List.map_take]
      congr 1
      have h1 : dig (os ++ [c]).length res = os ++ [c] := dig_of hdg rfl e1
      rw [← h1]
      exact dig_take _ _ (by simpa using hml)
    simp [shiftS, eM, eW, e3, e4, t1]
    have := maxLen_ge
    refine ⟨by omega, ⟨hdg, by omega⟩, ⟨4, 45, _, rfl, rfl, .inr ⟨(mag res).length, rfl, by simpa using hml, htk⟩⟩⟩
  | succ k =>
    obtain ⟨x, hx⟩ : ∃ x, x = (mag a).getD i 0 := ⟨_, rfl⟩
    have hxB : x < 4294967296 := by rw [hx]; exact getD_lt (mag_digs a) _
    have hi : i < (mag a).length := by omega
    have e1 := ix_dg _ _ hi
    rw [← hx] at e1
    have q0 : IntKind.u64.wrap (x : Int) = x := by rw [wrap_u64]; omega
    have q1 : min s 64 = s := by omega
    obtain ⟨y, hy⟩ : ∃ y, y = x * 2 ^ s := ⟨_, rfl⟩
    have hyB : y ≤ 4294967295 * 2 ^ 31 := by rw [hy]; exact Nat.mul_le_mul (by omega) h2s
    have q2 : IntKind.u64.wrap ((x : Int) * 2 ^ s) = y := by
      have : (x : Int) * 2 ^ s = y := by rw [hy]; simp
      rw [this, wrap_u64]; omega
    obtain ⟨h, hh⟩ : ∃ h, h = c + y := ⟨_, rfl⟩
    have q3 : bOr .u64 (c : Int) y = h := by
      rw [bOr64 c y (by omega) (by omega), hy, or_low c x s hc, hh, hy]
    obtain ⟨c', d, hd, hcut, w1, w2⟩ := cut32 (h : Int) h rfl
    have q4 : IntKind.i64.wrap ((i : Int) + 1) = i + 1 := by rw [wrap_i64]; omega
    have q5 : (i : Int) < (mag a).length := by omega
    simp [shiftS, eM, eW, e1, dg, r2, q0, q1, q2, q3, q4, q5, w1, w2]
    have hmx := maxLen_ge
    refine ⟨by omega, hN _ (nx (m := k) (s'' := shiftS a b (os ++ [d]) c' (i + 1)) (snd_obs (n := 47) [(19, 37, .row 1 72 ((os ++ [d]).map dg))] rfl (by simp [dg]) (by simp [shiftS, eM, eW])) ⟨_, _, _, hos.append (Digs.nil.cons hd), ?_, ?_, ?_, ?_, rfl⟩ (by omega))⟩
    · simp only [List.length_append, List.length_singleton]; omega
    · omega
    · have h1 : h < 2 ^ s * 4294967296 := by
        have h3 : (x + 1) * 2 ^ s ≤ 4294967296 * 2 ^ s := Nat.mul_le_mul_right _ hxB
        rw [Nat.add_mul, ← hy] at h3
        omega
      have h2 : B * c' < B * 2 ^ s := by simp only [B] at *; omega
      exact Nat.lt_of_mul_lt_mul_left h2
    · rw [val_snoc, List.length_append, List.length_singleton, Nat.pow_succ, Nat.mul_assoc, Nat.add_assoc, ← Nat.mul_add, hcut, hh, hy, val_take_getD, ← hx]
      have h3 : B ^ os.length * (x * 2 ^ s) = 2 ^ b * (B ^ i * x) := by
        rw [← hBw, hol, Nat.pow_add]; simp only [Nat.mul_assoc, Nat.mul_comm, Nat.mul_left_comm]
      rw [Nat.mul_add, Nat.mul_add, h3]
      omega
end Go.Proofs.YtdkgkcnllhcamaaGreat.Ae

/-! math/bits.Len32, LeadingZeros32. No condition. -/
namespace Go.Proofs.YtdkgkcnllhcamaaGreat.Ae
open Go Go.RowKit Go.Proofs.YtdkgkcnllhcamaaGreat.Dig
variable {N : NR}

/-- How many bits a number has. -/
def bl (x : Nat) : Nat := if x = 0 then 0 else Nat.log2 x + 1
theorem bl_shift (x k : Nat) (h : 2 ^ k ≤ x) : bl x = bl (x / 2 ^ k) + k := by
  have h0 : x ≠ 0 := by have := Nat.pow_pos (n := k) (show 0 < 2 by decide); omega
  have h1 : x / 2 ^ k ≠ 0 := by
    have := Nat.div_pos h (Nat.pow_pos (n := k) (by decide))
    omega
  unfold bl
  rw [if_neg h0, if_neg h1]
  have : Nat.log2 x = Nat.log2 (x / 2 ^ k) + k := by
    have e1 := Nat.log2_self_le h1
    have e2 := Nat.lt_log2_self (n := x / 2 ^ k)
    rw [Nat.log2_eq_iff h0]
    constructor
    · rw [Nat.pow_add]
      calc 2 ^ (x / 2 ^ k).log2 * 2 ^ k ≤ (x / 2 ^ k) * 2 ^ k := Nat.mul_le_mul_right _ e1
        _ ≤ x := Nat.div_mul_le_self _ _
    · have e3 : x < (x / 2 ^ k + 1) * 2 ^ k := by
        have := Nat.lt_div_mul_add (a := x) (b := 2 ^ k) (Nat.pow_pos (by decide))
        rw [Nat.add_mul]; omega
      calc x < (x / 2 ^ k + 1) * 2 ^ k := e3
        _ ≤ 2 ^ ((x / 2 ^ k).log2 + 1) * 2 ^ k := Nat.mul_le_mul_right _ e2
        _ = 2 ^ ((x / 2 ^ k).log2 + k + 1) := by rw [← Nat.pow_add]; congr 1; omega
  omega
theorem bl_le {x k : Nat} (h : x < 2 ^ k) : bl x ≤ k := by
  unfold bl
  split
  · omega
  · rename_i h0
    have := (Nat.log2_lt h0).2 h
    omega
theorem bl_lt {x : Nat} : x < 2 ^ bl x := by
  unfold bl
  split
  · rename_i h; subst h; decide
  · exact Nat.lt_log2_self
theorem bl_ge {x : Nat} (h : x ≠ 0) : 2 ^ (bl x - 1) ≤ x := by
  unfold bl
  rw [if_neg h]
  exact Nat.log2_self_le h
theorem tab_at {l : List UInt8} (h : l = (List.range 256).map (fun y => UInt8.ofNat (bl y))) (y : Nat) (hy : y < 256) : byteAt ⟨l.toArray⟩ y = bl y := by
  have h1 : (ByteArray.mk l.toArray)[y]? = some (UInt8.ofNat (bl y)) := by
    have hl : l.length = 256 := by rw [h, List.length_map, List.length_range]
    have hsz : (ByteArray.mk l.toArray).size = 256 := by show l.toArray.size = 256; simpa using hl
    rw [ByteArray.getElem?_lt' _ _ (by omega)]
    have : (ByteArray.mk l.toArray)[y] = l[y] := rfl
    rw [this]
    have h2 : l[y]? = some (UInt8.ofNat (bl y)) := by rw [h, List.getElem?_map, List.getElem?_range hy]; rfl
    rw [List.getElem?_eq_getElem (by omega)] at h2
    exact h2
  unfold byteAt
  rw [Int.toNat_natCast, h1, Option.getD_some]
  have : bl y ≤ 8 := bl_le (by omega)
  rw [UInt8.toNat_ofNat', Nat.mod_eq_of_lt (by omega)]

def d1E (x : Nat) : List D := [dg x]
theorem d1E_inj (p q : Nat) (h : d1E p = d1E q) : p = q := by simp only [d1E, List.cons.injEq, and_true] at h; exact dg_inj h
noncomputable def len32C := ctD d1E (fun x => x < B) (fun x => [.lit (.int .i64 (bl x))])
theorem len32C_at (x : Nat) : len32C [dg x] = (x < B, [.lit (.int .i64 (bl x))]) := ctD_at d1E_inj x
noncomputable def lz32C := ctD d1E (fun x => x < B) (fun x => [.lit (.int .i64 ((32 - bl x : Nat) : Int))])
theorem lz32C_at (x : Nat) : lz32C [dg x] = (x < B, [.lit (.int .i64 ((32 - bl x : Nat) : Int))]) := ctD_at d1E_inj x

theorem len32_spec : SpecD N Tryz.prog 109 len32C := by
  refine rdD (mf := fun _ => false) tbl_nil (fn := Tryz.f109) (by kernel_rfl) rfl (by kernel_rfl) ?_
  intro x hx
  refine ⟨by show 1 ≤ 19; decide, ?_⟩
  simp only [d1E, Tryz.f109]
  simp only [B] at hx
  have q1 : (x : Int) / 65536 = ((x / 65536 : Nat) : Int) := by omega
  have q2 : ((x / 65536 : Nat) : Int) / 256 = ((x / 65536 / 256 : Nat) : Int) := by omega
  have q3 : (x : Int) / 256 = ((x / 256 : Nat) : Int) := by omega
  generalize hs : ByteArray.mk (List.toArray _) = tb
  have hsz : tb.size = 256 := by rw [← hs]; kernel_rfl
  have key : ∀ y : Nat, y < 256 → byteAt tb y = bl y := by
    rw [← hs]
    exact fun y hy => tab_at (by kernel_rfl) y hy
  clear hs
  have fin : ∀ (y c : Nat), y < 256 → c ≤ 24 → bl x = bl y + c → (0 ≤ IntKind.u8.wrap (y : Int) ∧ IntKind.u8.wrap (y : Int) < tb.size) ∧ IntKind.i64.wrap ((c : Int) + IntKind.i64.wrap (byteAt tb (IntKind.u8.wrap (y : Int)))) = bl x := by
    intro y c hy hc he
    have h1 : IntKind.u8.wrap (y : Int) = y := by simp [IntKind.wrap, IntKind.signed, IntKind.bits]; omega
    have h2 : bl y ≤ 8 := bl_le (by omega)
    rw [h1, key y hy]
    refine ⟨by omega, ?_⟩
    rw [i64_id (bl y) (by omega) (by omega), i64_id _ (by omega) (by omega)]; omega
  have w24 : IntKind.i64.wrap 24 = 24 := i64_id _ (by decide) (by decide)
  have w8 : IntKind.i64.wrap 8 = 8 := i64_id _ (by decide) (by decide)
  simp [dg, w24, w8]
  refine ⟨fun h1 => ⟨fun h2 => ?_, fun h2 => ?_⟩, fun h1 => ⟨fun h2 => ?_, fun h2 => ?_⟩⟩
  · have e1 := bl_shift x 16 (by omega)
    have e2 := bl_shift (x / 2 ^ 16) 8 (by omega)
    have : (0 ≤ IntKind.u8.wrap ((x / 65536 / 256 : Nat) : Int) ∧ _) ∧ IntKind.i64.wrap (24 + _) = _ := fin (x / 65536 / 256) 24 (by omega) (by omega) (by rw [e1, e2])
    rw [q1, q2]
    refine ⟨this.1, ?_⟩
    rw [this.2]; exact Sub.refl _
  · have e1 := bl_shift x 16 (by omega)
    have : (0 ≤ IntKind.u8.wrap ((x / 65536 : Nat) : Int) ∧ _) ∧ IntKind.i64.wrap (16 + _) = _ := fin (x / 65536) 16 (by omega) (by omega) (by rw [e1])
    rw [q1]
    refine ⟨this.1, ?_⟩
    rw [this.2]; exact Sub.refl _
  · have e1 := bl_shift x 8 (by omega)
    have : (0 ≤ IntKind.u8.wrap ((x / 256 : Nat) : Int) ∧ _) ∧ IntKind.i64.wrap (8 + _) = _ := fin (x / 256) 8 (by omega) (by omega) (by rw [e1])
    rw [q3]
    refine ⟨this.1, ?_⟩
    rw [this.2]; exact Sub.refl _
  · have := fin x 0 (by omega) (by omega) rfl
    refine ⟨this.1, ?_⟩
    have h3 := this.2
    rw [Int.natCast_zero, Int.zero_add] at h3
    rw [h3]; exact Sub.refl _
theorem len32_ok : callable Tryz.prog 109 = true := by kernel_rfl
theorem lz32_spec : SpecD N Tryz.prog 105 lz32C := by
  refine rdD (mf := fun _ => false) (tbl_cons (f := 109) (c := .data len32C) len32_spec len32_ok tbl_nil) (fn := Tryz.f105) (by kernel_rfl) rfl (by kernel_rfl) ?_
  intro x hx
  refine ⟨by show 1 ≤ 6; decide, ?_⟩
  simp only [d1E, Tryz.f105]
  have h1 := len32C_at x
  have h2 : bl x ≤ 32 := bl_le (by simpa [B] using hx)
  have h3 : IntKind.i64.wrap (32 - (bl x : Int)) = ((32 - bl x : Nat) : Int) := by rw [wrap_i64]; omega
  simp only [dg] at h1
  generalize hr : ((32 - bl x : Nat) : Int) = r at *
  simp [dg, h1, h3, hx]
theorem lz32_ok : callable Tryz.prog 105 = true := by kernel_rfl
end Go.Proofs.YtdkgkcnllhcamaaGreat.Ae

/-! Long division: what the guess of a digit is worth. No condition. -/
namespace Go.Proofs.YtdkgkcnllhcamaaGreat.Dig

/-- A divisor and the part of the dividend that it is held against, by their first digits. -/
structure Kn (W V P top v2 u0 u1 u2 : Nat) : Prop where
  P0 : 0 < P
  hV : ∃ l, l < P ∧ V = l + P * (v2 + B * top)
  hW : ∃ l, l < P ∧ W = l + P * (u2 + B * (u1 + B * u0))
  v2B : v2 < B
  u2B : u2 < B
  u1B : u1 < B
  t0 : 0 < top
  lt : W < B * V

variable {W V P top v2 u0 u1 u2 : Nat}
theorem Kn.V0 (h : Kn W V P top v2 u0 u1 u2) : P * B ≤ V := by
  obtain ⟨l, _, e⟩ := h.hV
  have h1 : P * (B * 1) ≤ P * (B * top) := Nat.mul_le_mul_left _ (Nat.mul_le_mul_left _ h.t0)
  rw [Nat.mul_one] at h1
  rw [e, Nat.mul_add]; omega
theorem Kn.Vpos (h : Kn W V P top v2 u0 u1 u2) : 0 < V := Nat.lt_of_lt_of_le (Nat.mul_pos h.P0 B_pos) h.V0
theorem Kn.start (h : Kn W V P top v2 u0 u1 u2) : W / V ≤ (u1 + B * u0) / top := by
  rw [Nat.le_div_iff_mul_le h.t0]
  obtain ⟨l, hl, e⟩ := h.hV
  obtain ⟨m, hm, e'⟩ := h.hW
  have h1 : W / V * V ≤ W := Nat.div_mul_le_self _ _
  have h2 : W < P * B * (u1 + B * u0 + 1) := by
    have h3 : P * (u2 + 1) ≤ P * B := Nat.mul_le_mul_left _ h.u2B
    rw [e', Nat.mul_add P, Nat.mul_add (P * B), Nat.mul_one, ← Nat.mul_assoc P B]
    rw [Nat.mul_add, Nat.mul_one] at h3
    omega
  have h4 : P * B * (W / V * top) ≤ W / V * V := by
    have : P * (B * top) ≤ V := by rw [e, Nat.mul_add]; omega
    have := Nat.mul_le_mul_left (W / V) this
    have e3 : P * B * (W / V * top) = W / V * (P * (B * top)) := by simp only [Nat.mul_assoc, Nat.mul_comm, Nat.mul_left_comm]
    omega
  have h5 : P * B * (W / V * top) < P * B * (u1 + B * u0 + 1) := by omega
  have := Nat.lt_of_mul_lt_mul_left h5
  omega
theorem Kn.q_lt (h : Kn W V P top v2 u0 u1 u2) : W / V < B := (Nat.div_lt_iff_lt_mul h.Vpos).2 h.lt
theorem Kn.dec (h : Kn W V P top v2 u0 u1 u2) {g r : Nat} (hi : g * top + r = u1 + B * u0) (hq : W / V ≤ g) (hc : B ≤ g ∨ r * B + u2 < g * v2) : 1 ≤ g ∧ (g - 1) * top + (r + top) = u1 + B * u0 ∧ W / V ≤ g - 1 := by
  have hlt : W / V < g := by
    rcases hc with hc | hc
    · have := h.q_lt; omega
    · rw [Nat.div_lt_iff_lt_mul h.Vpos]
      obtain ⟨l, hl, e⟩ := h.hV
      obtain ⟨m, hm, e'⟩ := h.hW
      have h1 : g * (P * (v2 + B * top)) ≤ g * V := Nat.mul_le_mul_left _ (by omega)
      have h2 : W < P * (u2 + B * (u1 + B * u0) + 1) := by rw [e', Nat.mul_add P _ 1]; omega
      have h3 : u2 + B * (u1 + B * u0) + 1 ≤ g * (v2 + B * top) := by
        rw [← hi, Nat.mul_add B, Nat.mul_add g]
        have e1 : B * (g * top) = g * (B * top) := Nat.mul_left_comm _ _ _
        rw [e1, Nat.mul_comm B r]
        omega
      have h4 : P * (u2 + B * (u1 + B * u0) + 1) ≤ P * (g * (v2 + B * top)) := Nat.mul_le_mul_left _ h3
      have h5 : P * (g * (v2 + B * top)) = g * (P * (v2 + B * top)) := Nat.mul_left_comm _ _ _
      omega
  generalize W / V = q at hlt hq ⊢
  refine ⟨by omega, ?_, by omega⟩
  obtain ⟨k, rfl⟩ : ∃ k, g = k + 1 := ⟨g - 1, by omega⟩
  rw [Nat.add_sub_cancel]
  rw [Nat.add_mul, Nat.one_mul] at hi
  omega
theorem Kn.u0_le (h : Kn W V P top v2 u0 u1 u2) : u0 ≤ top := by
  obtain ⟨l, hl, e⟩ := h.hV
  obtain ⟨m, hm, e'⟩ := h.hW
  have h1 : P * (B * (B * u0)) ≤ W := by
    rw [e', Nat.mul_add P, Nat.mul_add B, Nat.mul_add P]
    omega
  have h2 : V < P * (B * (top + 1)) := by
    have h3 : P * (v2 + 1) ≤ P * B := Nat.mul_le_mul_left _ h.v2B
    rw [Nat.mul_add, Nat.mul_one] at h3
    rw [e, Nat.mul_add B, Nat.mul_add P, Nat.mul_add P, Nat.mul_one]
    omega
  have h3 : B * V < B * (P * (B * (top + 1))) := Nat.mul_lt_mul_of_pos_left h2 B_pos
  have h4 := h.lt
  have e3 : B * (P * (B * (top + 1))) = P * (B * (B * (top + 1))) := Nat.mul_left_comm _ _ _
  have h5 : P * (B * (B * u0)) < P * (B * (B * (top + 1))) := by omega
  have h6 := Nat.lt_of_mul_lt_mul_left (Nat.lt_of_mul_lt_mul_left (Nat.lt_of_mul_lt_mul_left h5))
  omega
theorem Kn.done (h : Kn W V P top v2 u0 u1 u2) {g r : Nat} (hi : g * top + r = u1 + B * u0) (hc : ¬ (r < B ∧ (B ≤ g ∨ r * B + u2 < g * v2))) : g < B ∧ g ≤ W / V + 1 := by
  obtain ⟨l, hl, e⟩ := h.hV
  obtain ⟨m, hm, e'⟩ := h.hW
  by_cases hr : r < B
  · have hg : g < B := by
      rcases Nat.lt_or_ge g B with h1 | h1
      · exact h1
      · exact absurd ⟨hr, .inl h1⟩ hc
    have hv : g * v2 ≤ r * B + u2 := by
      rcases Nat.lt_or_ge (r * B + u2) (g * v2) with h1 | h1
      · exact absurd ⟨hr, .inr h1⟩ hc
      · exact h1
    refine ⟨hg, ?_⟩
    have h1 : g * V < W + V := by
      have h2 : g * (v2 + B * top) ≤ u2 + B * (u1 + B * u0) := by
        rw [← hi, Nat.mul_add B, Nat.mul_add g]
        have e1 : B * (g * top) = g * (B * top) := Nat.mul_left_comm _ _ _
        rw [e1, Nat.mul_comm B r]
        omega
      have h3 : P * (g * (v2 + B * top)) ≤ P * (u2 + B * (u1 + B * u0)) := Nat.mul_le_mul_left _ h2
      have h4 : g * V = g * l + P * (g * (v2 + B * top)) := by rw [e, Nat.mul_add, Nat.mul_left_comm g P]
      have h5 : g * l ≤ g * P := Nat.mul_le_mul_left _ (Nat.le_of_lt hl)
      have h6 : g * P < B * P := Nat.mul_lt_mul_of_pos_right hg h.P0
      have h7 := h.V0
      rw [Nat.mul_comm P B] at h7
      omega
    cases g with
    | zero => exact Nat.zero_le _
    | succ k =>
      have h2 : k * V ≤ W := by rw [Nat.add_mul, Nat.one_mul] at h1; omega
      have h3 := (Nat.le_div_iff_mul_le h.Vpos).2 h2
      exact Nat.succ_le_succ h3
  · have hu := h.u0_le
    have h1 := h.u1B
    have hg : g < B := by
      have h2 : B * u0 ≤ B * top := Nat.mul_le_mul_left _ hu
      have h3 : g * top < B * top := by omega
      exact Nat.lt_of_mul_lt_mul_right h3
    refine ⟨hg, ?_⟩
    have h2 : g * V ≤ W := by
      have h3 : l + P * v2 ≤ P * B := by
        have : P * (v2 + 1) ≤ P * B := Nat.mul_le_mul_left _ h.v2B
        rw [Nat.mul_add, Nat.mul_one] at this
        omega
      have h4 : g * (l + P * v2) ≤ r * (P * B) := Nat.mul_le_mul (by omega) h3
      have h5 : g * V = g * (l + P * v2) + P * B * (g * top) := by
        have e1 : P * B * (g * top) = g * (P * (B * top)) := by simp only [Nat.mul_assoc, Nat.mul_comm, Nat.mul_left_comm]
        rw [e, Nat.mul_add P, ← Nat.add_assoc, Nat.mul_add g, e1]
      have h6 : P * B * (g * top) + P * B * r = P * B * (u1 + B * u0) := by rw [← Nat.mul_add, hi]
      have h7 : P * B * (u1 + B * u0) ≤ W := by
        rw [e', Nat.mul_add P u2, ← Nat.mul_assoc P B]
        omega
      rw [Nat.mul_comm r] at h4
      omega
    exact Nat.le_succ_of_le ((Nat.le_div_iff_mul_le h.Vpos).2 h2)

theorem val_top2 {ds : List Nat} {n : Nat} (hl : ds.length = n + 2) : val ds = val (ds.take n) + B ^ n * (ds.getD n 0 + B * ds.getD (n + 1) 0) := by
  have h1 := val_take_getD ds n
  have h2 := val_take_getD ds (n + 1)
  rw [val_take_all ds (n + 1 + 1) (by omega), h1, Nat.pow_succ, Nat.mul_assoc, Nat.add_assoc, ← Nat.mul_add] at h2
  exact h2
theorem val_top3 {ds : List Nat} {n : Nat} (hl : ds.length = n + 3) : val ds = val (ds.take n) + B ^ n * (ds.getD n 0 + B * (ds.getD (n + 1) 0 + B * ds.getD (n + 2) 0)) := by
  have h1 := val_take_getD ds n
  have h2 := val_take_getD ds (n + 1)
  have h3 := val_take_getD ds (n + 2)
  rw [val_take_all ds (n + 2 + 1) (by omega)] at h3
  have e1 : B ^ (n + 1) = B ^ n * B := Nat.pow_succ ..
  have e2 : B ^ (n + 2) = B ^ n * B * B := by rw [Nat.pow_succ, e1]
  rw [h3, h2, h1, e1, e2]
  simp only [Nat.mul_add, Nat.mul_assoc, Nat.add_assoc]
theorem val_top1 {ds : List Nat} {n : Nat} (hl : ds.length = n + 1) : val ds = val (ds.take n) + B ^ n * ds.getD n 0 := by
  have h1 := val_take_getD ds n
  rwa [val_take_all ds (n + 1) (by omega)] at h1
/-- The rest behind a guess that is right or one too great. -/
theorem rest_of {W V M g : Nat} (hV : 0 < V) (hM : W < M) (hVM : V ≤ M) (h1 : W / V ≤ g) (h2 : g ≤ W / V + 1) :
    (W < g * V → g - 1 = W / V ∧ ((W + M - g * V) + V) % M = W % V) ∧ (¬ W < g * V → g = W / V ∧ W - g * V = W % V) := by
  have h3 := Nat.div_add_mod W V
  have h4 := Nat.mod_lt W hV
  rw [Nat.mul_comm] at h3
  generalize W / V = q at *
  generalize W % V = x at *
  have hcase : g = q ∨ g = q + 1 := by omega
  constructor
  · intro hlt
    rcases hcase with rfl | rfl
    · omega
    · refine ⟨by omega, ?_⟩
      rw [Nat.add_mul, Nat.one_mul]
      rw [Nat.add_mul, Nat.one_mul] at hlt
      have e1 : W + M - (q * V + V) + V = x + M * 1 := by omega
      rw [e1, Nat.add_mul_mod_self_left, Nat.mod_eq_of_lt (by omega)]
  · intro hge
    rcases hcase with rfl | rfl
    · exact ⟨rfl, by omega⟩
    · rw [Nat.add_mul, Nat.one_mul] at hge
      omega
end Go.Proofs.YtdkgkcnllhcamaaGreat.Dig

/-! impl.divMag: quotient and rest of digits. No condition. -/
namespace Go.Proofs.YtdkgkcnllhcamaaGreat.Ae
open Go Go.RowKit Go.Proofs.YtdkgkcnllhcamaaGreat.Dig
variable {N : NR}

def noD : List D → Prop × List D := fun _ => (False, [])
theorem noD_spec (f : FuncId) : SpecD N Tryz.prog f noD := fun ds h => h.elim
noncomputable def divC := ctD n2E (fun p => Sm p.a ∧ Sm p.b ∧ 0 < p.b) (fun p => [eM (p.a / p.b), eM (p.a % p.b)])
theorem divC_at (a b : Nat) : divC [eM a, eM b] = (Sm a ∧ Sm b ∧ 0 < b, [eM (a / b), eM (a % b)]) := ctD_at n2E_inj ⟨a, b⟩
def divMf : FuncId → Bool := fun f => f == 106 || f == 93 || f == 107 || f == 108
noncomputable def divTb : List (FuncId × Ct) := [(93, .win 1 72 trimW trimC), (70, .data cmpC), (104, .data shortC), (105, .data lz32C), (106, .own 1 72 shiftO), (107, .win 1 72 takeW noD), (108, .win 1 72 giveW noD)]
theorem divTb_ok : TbOK N Tryz.prog (tbl divTb) := tbl_cons trimB_ok trimmed_ok (tbl_cons (c := .data cmpC) cmpMag_spec cmpMag_ok (tbl_cons (c := .data shortC) shortMag_spec shortMag_ok (tbl_cons (c := .data lz32C) lz32_spec lz32_ok (tbl_cons (c := .own 1 72 shiftO) shiftMag_specO shiftMag_ok (tbl_cons (c := .win 1 72 takeW noD) ⟨takeTimes_specW, noD_spec _⟩ takeTimes_ok (tbl_cons (c := .win 1 72 giveW noD) ⟨giveBack_specW, noD_spec _⟩ giveBack_ok tbl_nil))))))

theorem dt1 : tbl divTb 93 = some (.win 1 72 trimW trimC) := rfl
theorem dt2 : tbl divTb 70 = some (.data cmpC) := rfl
theorem dt3 : tbl divTb 104 = some (.data shortC) := rfl
theorem dt4 : tbl divTb 105 = some (.data lz32C) := rfl
theorem dt5 : tbl divTb 106 = some (.own 1 72 shiftO) := rfl
theorem dt6 : tbl divTb 107 = some (.win 1 72 takeW noD) := rfl
theorem dt7 : tbl divTb 108 = some (.win 1 72 giveW noD) := rfl
attribute [simp] dt1 dt2 dt3 dt4 dt5 dt6 dt7 divMf

/-- The divisor, shifted so that its first digit is great. -/
theorem norm_facts {b n bt sh : Nat} (hn : (mag b).length = n + 1) (hbt : bt = (mag b).getD n 0) (hsh : sh = 32 - bl bt) : sh ≤ 31 ∧ (mag (b * 2 ^ sh)).length = n + 1 ∧ 2147483648 ≤ (mag (b * 2 ^ sh)).getD n 0 := by
  have hbB : bt < 2 ^ 32 := by rw [hbt]; exact getD_lt (mag_digs b) n
  have hb0 : bt ≠ 0 := by
    have h1 : (mag b).getLast? = some bt := by
      rw [List.getLast?_eq_getElem?, hn, Nat.add_sub_cancel, hbt, List.getD_eq_getElem?_getD, List.getElem?_eq_getElem (by omega)]; rfl
    exact mag_last b bt h1
  have h1 : 1 ≤ bl bt := by unfold bl; rw [if_neg hb0]; omega
  have h2 : bl bt ≤ 32 := bl_le hbB
  have h3 := bl_lt (x := bt)
  have h4 := bl_ge hb0
  have hv := val_top1 hn
  rw [val_mag, ← hbt] at hv
  have hlow := val_lt ((mag_digs b).take n)
  rw [List.length_take, Nat.min_eq_left (by omega)] at hlow
  have hB : B = 2 ^ 32 := by decide
  have hup : b * 2 ^ sh < B ^ (n + 1) := by
    have e1 : b < B ^ n * 2 ^ bl bt := by
      have : B ^ n * (bt + 1) ≤ B ^ n * 2 ^ bl bt := Nat.mul_le_mul_left _ h3
      rw [Nat.mul_add, Nat.mul_one] at this
      omega
    have e2 : b * 2 ^ sh < B ^ n * 2 ^ bl bt * 2 ^ sh := Nat.mul_lt_mul_of_pos_right e1 (Nat.pow_pos (by decide))
    have e3 : B ^ n * 2 ^ bl bt * 2 ^ sh = B ^ (n + 1) := by rw [Nat.mul_assoc, ← Nat.pow_add, Nat.pow_succ]; congr 1; rw [hB]; congr 1; omega
    omega
  have hlo : B ^ n * 2147483648 ≤ b * 2 ^ sh := by
    have e1 : B ^ n * 2 ^ (bl bt - 1) ≤ b := by
      have : B ^ n * 2 ^ (bl bt - 1) ≤ B ^ n * bt := Nat.mul_le_mul_left _ h4
      omega
    have e2 : B ^ n * 2 ^ (bl bt - 1) * 2 ^ sh ≤ b * 2 ^ sh := Nat.mul_le_mul_right _ e1
    have e3 : B ^ n * 2 ^ (bl bt - 1) * 2 ^ sh = B ^ n * 2147483648 := by
      rw [Nat.mul_assoc, ← Nat.pow_add]; congr 1
      have : bl bt - 1 + sh = 31 := by omega
      rw [this]
    omega
  have hlen : (mag (b * 2 ^ sh)).length = n + 1 := by
    have e1 := mag_lt.2 hup
    rcases Nat.lt_or_ge (mag (b * 2 ^ sh)).length (n + 1) with e2 | e2
    · have e3 := mag_lt.1 (by omega : (mag (b * 2 ^ sh)).length ≤ n)
      have : B ^ n * 1 ≤ B ^ n * 2147483648 := Nat.mul_le_mul_left _ (by decide)
      omega
    · omega
  refine ⟨by omega, hlen, ?_⟩
  have hv2 := val_top1 hlen
  rw [val_mag] at hv2
  have hlow2 := val_lt ((mag_digs (b * 2 ^ sh)).take n)
  rw [List.length_take, Nat.min_eq_left (by omega)] at hlow2
  have h5 : B ^ n * 2147483648 < B ^ n * ((mag (b * 2 ^ sh)).getD n 0 + 1) := by rw [Nat.mul_add, Nat.mul_one]; omega
  have := Nat.lt_of_mul_lt_mul_left h5
  omega

/-! Parts of code. -/
def sq1 : Code → Code
  | .seq a _ => a
  | c => c
def sq2 : Code → Code
  | .seq _ b => b
  | c => c
def inB : Code → Code
  | .block _ c => c
  | c => c
def inL : Code → Code
  | .loop c => c
  | c => c
noncomputable def divB8 : Code := sq2 (sq2 (sq2 (sq2 (sq2 (sq2 (sq2 (sq2 (Tryz.f103.body.getD .skip))))))))
noncomputable def divB7 : Code := sq2 (sq2 (sq2 (sq2 (sq2 (sq2 (sq2 (Tryz.f103.body.getD .skip)))))))
noncomputable def divL2 : Code := inL (inB (sq2 (sq1 divB7)))
noncomputable def divL3 : Code := inL (inB (sq1 (sq2 (sq2 (inB (sq1 (sq2 divL2)))))))

def divS1 (a b sh n : Nat) (us vs : List Nat) : St := ⟨[.dat (.sl 1 ((mag a).map dg)), .dat (.sl 1 ((mag b).map dg)), .any, .any, .any, .any, .any, .any, .dat (.lit (.int .u64 sh)), .dat (.lit (.int .i64 n)), .row 55, .row 58, .any, .any, .any, .any, .any, .any, .any, .any, .any, .any, .any, .any, .any, .any, .any, .any, .any, .any, .any, .any, .any, .any, .any, .any, .any, .any, .any, .any, .any, .any, .any, .any, .any, .any, .any, .any, .any, .any, .any, .any, .any, .any, .any, .any, .any, .any, .any, .any, .any, .any, .any, .any, .any, .any, .any, .any, .any, .any, .any, .any, .any, .any, .any, .any, .any, .any, .any, .any, .any, .any, .any, .any, .any, .any, .any, .any, .any, .any, .any, .any, .any, .any, .any, .any, .any, .any, .any, .any, .any, .any, .any, .any, .any, .any, .any, .any, .any, .any, .any, .any, .any, .any, .any, .any, .any, .any, .any, .any, .any, .any, .any, .any, .any, .any, .any, .any, .any, .any, .any, .any, .any, .any, .any, .any, .any, .any, .any, .any, .any, .any, .any, .any, .any, .any, .any, .any, .any, .any, .any, .any, .any, .any, .any, .any, .any, .any, .any, .any, .any, .any, .any, .any, .any, .any, .any, .any, .any, .any, .any, .any, .any, .any, .any, .any, .any, .any, .any, .any, .any, .any, .any, .any, .any, .any, .any, .any, .any, .any, .any, .any, .any, .any, .any, .any, .any, .any, .any, .any, .any, .any, .any, .any, .any, .any, .any], [none, none, none, none, none, none, none, none, none, none, none, none, none, none, none, none, none, none, none, none, none, none, none, none, none, none, none, none, none, none, none, none, none, none, none, none, none, none, none, none, none, none, none, none, none, none, none, none, none, none, none, none, none, none, none, some (.row 1 72 (us.map dg)), none, none, some (.row 1 72 (vs.map dg)), none, none, none, none, none, none, none, none, none, none, none, none, none, none, none, none, none, none, none, none, none, none, none, none, none, none, none, none, none, none, none, none, none, none, none, none, none, none, none, none, none, none, none, none, none, none, none, none, none, none, none, none, none, none, none, none, none, none, none, none, none, none, none, none, none, none, none, none, none, none, none, none, none, none, none, none, none, none, none, none, none, none, none, none, none, none, none, none, none, none, none, none, none, none, none, none, none, none, none, none, none, none, none, none, none, none, none, none, none, none, none, none, none, none, none, none, none, none, none, none, none, none, none, none, none, none, none, none, none, none, none, none, none, none, none, none, none, none, none, none, none, none, none, none, none, none, none, none]⟩
def divS2 (sh n : Nat) (us vs : List Nat) (top : Nat) (qs : List Nat) (k : Nat) : St := ⟨[.any, .any, .any, .any, .any, .any, .any, .any, .dat (.lit (.int .u64 sh)), .dat (.lit (.int .i64 n)), .row 55, .row 58, .dat (.lit (.int .u64 top)), .row 77, .dat (.lit (.int .i64 ((k : Int) - 1))), .any, .any, .any, .any, .any, .any, .any, .any, .any, .any, .any, .any, .any, .any, .any, .any, .any, .any, .any, .any, .any, .any, .any, .any, .any, .any, .any, .any, .any, .any, .any, .any, .any, .any, .any, .any, .any, .any, .any, .any, .any, .any, .any, .any, .any, .any, .any, .any, .any, .any, .any, .any, .any, .any, .any, .any, .any, .any, .any, .any, .any, .any, .any, .any, .any, .any, .any, .any, .any, .any, .any, .any, .any, .any, .any, .any, .any, .any, .any, .any, .any, .any, .any, .any, .any, .any, .any, .any, .any, .any, .any, .any, .any, .any, .any, .any, .any, .any, .any, .any, .any, .any, .any, .any, .any, .any, .any, .any, .any, .any, .any, .any, .any, .any, .any, .any, .any, .any, .any, .any, .any, .any, .any, .any, .any, .any, .any, .any, .any, .any, .any, .any, .any, .any, .any, .any, .any, .any, .any, .any, .any, .any, .any, .any, .any, .any, .any, .any, .any, .any, .any, .any, .any, .any, .any, .any, .any, .any, .any, .any, .any, .any, .any, .any, .any, .any, .any, .any, .any, .any, .any, .any, .any, .any, .any, .any, .any, .any, .any, .any, .any, .any, .any, .any, .any, .any, .any, .any, .any, .any, .any, .any], [none, none, none, none, none, none, none, none, none, none, none, none, none, none, none, none, none, none, none, none, none, none, none, none, none, none, none, none, none, none, none, none, none, none, none, none, none, none, none, none, none, none, none, none, none, none, none, none, none, none, none, none, none, none, none, some (.row 1 72 (us.map dg)), none, none, some (.frow 1 72 (vs.map dg)), none, none, none, none, none, none, none, none, none, none, none, none, none, none, none, none, none, none, some (.row 1 72 (List.replicate k z32 ++ qs.map dg)), none, none, none, none, none, none, none, none, none, none, none, none, none, none, none, none, none, none, none, none, none, none, none, none, none, none, none, none, none, none, none, none, none, none, none, none, none, none, none, none, none, none, none, none, none, none, none, none, none, none, none, none, none, none, none, none, none, none, none, none, none, none, none, none, none, none, none, none, none, none, none, none, none, none, none, none, none, none, none, none, none, none, none, none, none, none, none, none, none, none, none, none, none, none, none, none, none, none, none, none, none, none, none, none, none, none, none, none, none, none, none, none, none, none, none, none, none, none, none, none, none, none, none, none, none, none, none, none, none]⟩
def divSe (sh n : Nat) (us vs : List Nat) (top : Nat) (qs : List Nat) : St := ⟨[.any, .any, .any, .any, .any, .any, .any, .any, .dat (.lit (.int .u64 sh)), .dat (.lit (.int .i64 n)), .row 55, .row 58, .dat (.lit (.int .u64 top)), .row 77, .dat (.lit (.int .i64 (-1))), .any, .any, .any, .any, .any, .any, .any, .any, .any, .any, .any, .any, .any, .any, .any, .any, .any, .any, .any, .any, .any, .any, .any, .any, .any, .any, .any, .any, .any, .any, .any, .any, .any, .any, .any, .any, .any, .any, .any, .any, .any, .any, .any, .any, .any, .any, .any, .any, .any, .any, .any, .any, .any, .any, .any, .any, .any, .any, .any, .any, .any, .any, .any, .any, .any, .any, .any, .any, .dat (.lit (.int .i64 (-1))), .dat (.lit (.bool false)), .any, .any, .any, .any, .any, .any, .any, .any, .any, .any, .any, .any, .any, .any, .any, .any, .any, .any, .any, .any, .any, .any, .any, .any, .any, .any, .any, .any, .any, .any, .any, .any, .any, .any, .any, .any, .any, .any, .any, .any, .any, .any, .any, .any, .any, .any, .any, .any, .any, .any, .any, .any, .any, .any, .any, .any, .any, .any, .any, .any, .any, .any, .any, .any, .any, .any, .any, .any, .any, .any, .any, .any, .any, .any, .any, .any, .any, .any, .any, .any, .any, .any, .any, .any, .any, .any, .any, .any, .any, .any, .any, .any, .any, .any, .any, .any, .any, .any, .any, .any, .any, .any, .any, .any, .any, .any, .any, .any, .any, .any, .any, .any, .any, .any, .any, .any, .any, .any, .any, .any, .any, .any], [none, none, none, none, none, none, none, none, none, none, none, none, none, none, none, none, none, none, none, none, none, none, none, none, none, none, none, none, none, none, none, none, none, none, none, none, none, none, none, none, none, none, none, none, none, none, none, none, none, none, none, none, none, none, none, some (.row 1 72 (us.map dg)), none, none, some (.frow 1 72 (vs.map dg)), none, none, none, none, none, none, none, none, none, none, none, none, none, none, none, none, none, none, some (.row 1 72 (qs.map dg)), none, none, none, none, none, none, none, none, none, none, none, none, none, none, none, none, none, none, none, none, none, none, none, none, none, none, none, none, none, none, none, none, none, none, none, none, none, none, none, none, none, none, none, none, none, none, none, none, none, none, none, none, none, none, none, none, none, none, none, none, none, none, none, none, none, none, none, none, none, none, none, none, none, none, none, none, none, none, none, none, none, none, none, none, none, none, none, none, none, none, none, none, none, none, none, none, none, none, none, none, none, none, none, none, none, none, none, none, none, none, none, none, none, none, none, none, none, none, none, none, none, none, none, none, none, none, none, none, none]⟩
def divS3 (sh n : Nat) (us vs : List Nat) (top : Nat) (qs : List Nat) (k g r : Nat) : St := ⟨[.any, .any, .any, .any, .any, .any, .any, .any, .dat (.lit (.int .u64 sh)), .dat (.lit (.int .i64 n)), .row 55, .row 58, .dat (.lit (.int .u64 top)), .row 77, .dat (.lit (.int .i64 k)), .any, .dat (.lit (.int .u64 g)), .dat (.lit (.int .u64 r)), .any, .any, .any, .any, .any, .any, .any, .any, .any, .any, .any, .any, .any, .any, .any, .any, .any, .any, .any, .any, .any, .any, .any, .any, .any, .any, .any, .any, .any, .any, .any, .any, .any, .any, .any, .any, .any, .any, .any, .any, .any, .any, .any, .any, .any, .any, .any, .any, .any, .any, .any, .any, .any, .any, .any, .any, .any, .any, .any, .any, .any, .any, .any, .any, .any, .any, .any, .any, .any, .any, .any, .any, .any, .any, .any, .any, .any, .any, .any, .any, .any, .any, .any, .any, .any, .any, .any, .any, .any, .any, .any, .any, .any, .any, .any, .any, .any, .any, .any, .any, .any, .any, .any, .any, .any, .any, .any, .any, .any, .any, .any, .any, .any, .any, .any, .any, .any, .any, .any, .any, .any, .any, .any, .any, .any, .any, .any, .any, .any, .any, .any, .any, .any, .any, .any, .any, .any, .any, .any, .any, .any, .any, .any, .any, .any, .any, .any, .any, .any, .any, .any, .any, .any, .any, .any, .any, .any, .any, .any, .any, .any, .any, .any, .any, .any, .any, .any, .any, .any, .any, .any, .any, .any, .any, .any, .any, .any, .any, .any, .any, .any, .any, .any, .any, .any, .any, .any, .any, .any], [none, none, none, none, none, none, none, none, none, none, none, none, none, none, none, none, none, none, none, none, none, none, none, none, none, none, none, none, none, none, none, none, none, none, none, none, none, none, none, none, none, none, none, none, none, none, none, none, none, none, none, none, none, none, none, some (.row 1 72 (us.map dg)), none, none, some (.frow 1 72 (vs.map dg)), none, none, none, none, none, none, none, none, none, none, none, none, none, none, none, none, none, none, some (.row 1 72 (List.replicate (k + 1) z32 ++ qs.map dg)), none, none, none, none, none, none, none, none, none, none, none, none, none, none, none, none, none, none, none, none, none, none, none, none, none, none, none, none, none, none, none, none, none, none, none, none, none, none, none, none, none, none, none, none, none, none, none, none, none, none, none, none, none, none, none, none, none, none, none, none, none, none, none, none, none, none, none, none, none, none, none, none, none, none, none, none, none, none, none, none, none, none, none, none, none, none, none, none, none, none, none, none, none, none, none, none, none, none, none, none, none, none, none, none, none, none, none, none, none, none, none, none, none, none, none, none, none, none, none, none, none, none, none, none, none, none, none, none, none]⟩
end Go.Proofs.YtdkgkcnllhcamaaGreat.Ae

/-! impl.divMag: the loop that finds the digits of the quotient. No condition. -/
namespace Go.Proofs.YtdkgkcnllhcamaaGreat.Ae
open Go Go.RowKit Go.Proofs.YtdkgkcnllhcamaaGreat.Dig

/-- The first digits of the dividend's part and of the divisor. -/
theorem kn_of {us : List Nat} {V k n2 top : Nat} (hus : Digs us) (hk : k + (n2 + 3) ≤ us.length) (hV : (mag V).length = n2 + 2) (htop : top = (mag V).getD (n2 + 1) 0) (ht : 0 < top) (hlt : val (part us k (n2 + 3)) < B * V) :
    Kn (val (part us k (n2 + 3))) V (B ^ n2) top ((mag V).getD n2 0) (us.getD (k + n2 + 2) 0) (us.getD (k + n2 + 1) 0) (us.getD (k + n2) 0) := by
  have hpl := part_len us k (n2 + 3) hk
  have hpd := part_digs hus k (n2 + 3)
  have hg : ∀ j, j < n2 + 3 → (part us k (n2 + 3)).getD j 0 = us.getD (k + j) 0 := fun j hj => by
    unfold part
    rw [List.getD_eq_getElem?_getD, List.getElem?_take_of_lt hj, List.getElem?_drop, ← List.getD_eq_getElem?_getD]
  have h3 := val_top3 hpl
  have h2 := val_top2 hV
  rw [val_mag, ← htop] at h2
  rw [hg n2 (by omega), hg (n2 + 1) (by omega), hg (n2 + 2) (by omega)] at h3
  refine ⟨Nat.pow_pos B_pos, ⟨_, ?_, h2⟩, ⟨_, ?_, h3⟩, getD_lt (mag_digs V) _, getD_lt hus _, getD_lt hus _, ht, hlt⟩
  · have := val_lt ((mag_digs V).take n2)
    rwa [List.length_take, Nat.min_eq_left (by omega)] at this
  · have := val_lt (hpd.take n2)
    rwa [List.length_take, Nat.min_eq_left (by omega)] at this
/-- The part of the dividend that the next digit is found of. -/
theorem part_lt {us : List Nat} {V k n : Nat} (hus : Digs us) (hk : k < us.length) (hV : V < B ^ n) (h : val (us.drop (k + 1)) < V) : val (us.drop k) = val (part us k (n + 1)) ∧ val (us.drop (k + (n + 1))) = 0 ∧ val (part us k (n + 1)) < B * V := by
  have h1 : val (us.drop k) < B * V := by
    rw [drop_val hk]
    have h2 := getD_lt hus k
    have h3 : B * (val (us.drop (k + 1)) + 1) ≤ B * V := Nat.mul_le_mul_left _ h
    rw [Nat.mul_add, Nat.mul_one] at h3
    exact Nat.lt_of_lt_of_le (by rw [Nat.add_comm]; exact Nat.add_lt_add_left h2 _) h3
  have h2 : val (us.drop k) = val (part us k (n + 1)) + B ^ (n + 1) * val (us.drop (k + (n + 1))) := by
    rcases Nat.lt_or_ge (us.length - k) (n + 1) with h3 | h3
    · have e1 : part us k (n + 1) = us.drop k := by unfold part; rw [List.take_of_length_le (by simp; omega)]
      rw [e1, List.drop_eq_nil_of_le (by omega : us.length ≤ k + (n + 1))]
      rw [val, Nat.mul_zero, Nat.add_zero]
    · have := val_take_drop (us.drop k) (n + 1) (by simp; omega)
      rw [List.drop_drop] at this
      exact this
  have h6 : B * V ≤ B ^ (n + 1) := by rw [Nat.pow_succ, Nat.mul_comm]; exact Nat.mul_le_mul_right _ (Nat.le_of_lt hV)
  generalize B ^ (n + 1) = M at h2 h6
  generalize B * V = Z at *
  have h3 : val (us.drop (k + (n + 1))) = 0 := by
    rcases Nat.eq_zero_or_pos (val (us.drop (k + (n + 1)))) with h4 | h4
    · exact h4
    · have h5 : M * 1 ≤ M * val (us.drop (k + (n + 1))) := Nat.mul_le_mul_left _ h4
      omega
  rw [h3, Nat.mul_zero, Nat.add_zero] at h2
  exact ⟨h2, h3, by rw [← h2]; exact h1⟩
/-- What a slice tells behind a change of a part. -/
theorem put_val {us : List Nat} {k n x : Nat} (hus : Digs us) (hk : k + n ≤ us.length) (hx : x < B ^ n) : Digs (put us k n x) ∧ (put us k n x).length = us.length ∧ val (put us k n x) + B ^ k * val (part us k n) = val us + B ^ k * x ∧ val ((put us k n x).drop k) = x + B ^ n * val (us.drop (k + n)) ∧ part (put us k n x) k n = dig n x := by
  have hl : (us.take k).length = k := by simp; omega
  have hd : (us.take k ++ dig n x).length = k + n := by rw [List.length_append, hl, dig_len]
  have e1 : (put us k n x).drop k = dig n x ++ us.drop (k + n) := by
    unfold put
    rw [List.append_assoc]
    have : ∀ (X Y : List Nat), X.length = k → (X ++ Y).drop k = Y := fun X Y h => by rw [← h, List.drop_left]
    exact this _ _ hl
  have hv2 : val (us.drop k) = val (part us k n) + B ^ n * val (us.drop (k + n)) := by
    have := val_take_drop (us.drop k) n (by simp; omega)
    rw [List.drop_drop] at this
    exact this
  refine ⟨((hus.take k).append (dig_digs n x)).append (hus.drop _), by unfold put; rw [List.length_append, hd, List.length_drop]; omega, ?_, ?_, ?_⟩
  · unfold put
    rw [val_append, hd, val_append, hl, val_dig n x hx, Nat.pow_add]
    have h1 := val_take_drop us k (by omega)
    rw [h1, hv2, Nat.mul_add, Nat.mul_assoc]
    generalize B ^ k * (B ^ n * val (us.drop (k + n))) = z1
    generalize B ^ k * val (part us k n) = z2
    generalize B ^ k * x = z3
    omega
  · rw [e1, val_append, dig_len, val_dig n x hx]
  · unfold part
    rw [e1]
    have : ∀ (X Y : List Nat), X.length = n → (X ++ Y).take n = X := fun X Y h => by rw [← h, List.take_left]
    exact this _ _ (dig_len n x)

set_option maxRecDepth 100000 in
set_option maxHeartbeats 4000000 in
theorem div_step {sh n n1 V top k la : Nat} {us qs : List Nat} (hn2 : 2 ≤ n) (hn1 : n - 1 = n1) (hVl : (mag V).length = n1 + 1) (htop : top = (mag V).getD n1 0) (hVt : 2147483648 ≤ top) (htB : top < 4294967296) (hla : la < 2 ^ 40) (hus : Digs us) (hul : us.length = la + 1) (hkk : k + 1 + n ≤ la + 1) (hdr : val (us.drop (k + 1)) < V)
    (KN : St → Prop) (K : Exit → St → Prop) (hN : ∀ us' q, Digs us' → us'.length = la + 1 → q < B → val (us'.drop k) < V → val us' + V * B ^ k * q = val us → ∀ s', Snd s' (divS2 sh n us' (mag V) top (q :: qs) k) → KN s') :
    awp Tryz.prog divMf (tbl divTb) divL2 (divS2 sh n us (mag V) top qs (k + 1)) (Klp KN K) := by
  simp only [divL2, divB7, Tryz.f103, Option.getD, sq1, sq2, inB, inL]
  obtain ⟨n2, hn2'⟩ : ∃ n2, n = n2 + 2 := ⟨n - 2, by omega⟩
  have hkn : k + (n + 1) ≤ us.length := by omega
  obtain ⟨kn, hkn1⟩ : ∃ x, x = k + n := ⟨_, rfl⟩
  obtain ⟨kn1, hkn2⟩ : ∃ x, x = k + n2 + 1 := ⟨_, rfl⟩
  obtain ⟨kn2, hkn3⟩ : ∃ x, x = k + n2 := ⟨_, rfl⟩
  obtain ⟨knp, hkn4⟩ : ∃ x, x = k + n + 1 := ⟨_, rfl⟩
  obtain ⟨np, hnp⟩ : ∃ x, x = n + 1 := ⟨_, rfl⟩
  have p1 : IntKind.i64.wrap ((k : Int) + n) = kn := by rw [wrap_i64]; omega
  have p2 : IntKind.i64.wrap ((kn : Int) - 1) = kn1 := by rw [wrap_i64]; omega
  have p3 : IntKind.i64.wrap ((kn : Int) - 2) = kn2 := by rw [wrap_i64]; omega
  have p4 : IntKind.i64.wrap ((kn : Int) + 1) = knp := by rw [wrap_i64]; omega
  have p5 : ((knp : Int) - k).toNat = np := by omega
  obtain ⟨u0, hu0⟩ : ∃ x, x = us.getD kn 0 := ⟨_, rfl⟩
  obtain ⟨u1, hu1⟩ : ∃ x, x = us.getD kn1 0 := ⟨_, rfl⟩
  obtain ⟨u2, hu2⟩ : ∃ x, x = us.getD kn2 0 := ⟨_, rfl⟩
  obtain ⟨v2, hv2⟩ : ∃ x, x = (mag V).getD n2 0 := ⟨_, rfl⟩
  have hu0B : u0 < 4294967296 := by rw [hu0]; exact getD_lt hus _
  have hu1B : u1 < 4294967296 := by rw [hu1]; exact getD_lt hus _
  have hu2B : u2 < 4294967296 := by rw [hu2]; exact getD_lt hus _
  have hv2B : v2 < 4294967296 := by rw [hv2]; exact getD_lt (mag_digs V) _
  have i0 := ix_dg us kn (by omega)
  have i1 := ix_dg us kn1 (by omega)
  have i2 := ix_dg us kn2 (by omega)
  have i3 := ix_dg (mag V) n2 (by omega)
  rw [← hu0] at i0
  rw [← hu1] at i1
  rw [← hu2] at i2
  rw [← hv2] at i3
  obtain ⟨W, hW⟩ : ∃ W, W = val (part us k np) := ⟨_, rfl⟩
  have hnp2 : np = n2 + 3 := by omega
  have hVlt : V < B ^ n := mag_lt.1 (by omega)
  have hpt := part_lt hus (by omega : k < us.length) hVlt hdr
  rw [← hnp, ← hW] at hpt
  have kk : Kn W V (B ^ n2) top v2 u0 u1 u2 := by
    have := kn_of hus (by omega : k + (n2 + 3) ≤ us.length) (by omega : (mag V).length = n2 + 2) (top := top) (by rw [htop]; congr 1; omega) (by omega) (by rw [← hnp2, ← hW]; exact hpt.2.2)
    rw [← hnp2, ← hW, ← hv2] at this
    have e0 : k + n2 + 2 = kn := by omega
    rw [e0, ← hkn2, ← hkn3, ← hu0, ← hu1, ← hu2] at this
    exact this
  obtain ⟨head, hhead⟩ : ∃ h, h = u1 + B * u0 := ⟨_, rfl⟩
  have t1 : IntKind.u64.wrap (u0 : Int) = u0 := by rw [wrap_u64]; omega
  have t2 : IntKind.u64.wrap ((u0 : Int) * 4294967296) = (u0 : Int) * 4294967296 := by rw [wrap_u64]; omega
  have t3 : IntKind.u64.wrap (u1 : Int) = u1 := by rw [wrap_u64]; omega
  have t4 : bOr .u64 ((u0 : Int) * 4294967296) u1 = head := by
    have := bOr64 (u0 * 4294967296) u1 (by omega) (by omega)
    rw [or_cut u0 u1 hu1B] at this
    have e : u0 * 4294967296 + u1 = head := by rw [hhead]; simp only [B]; omega
    rw [e] at this
    rw [← this]; congr 1
  have hheadB : head < 18446744073709551616 := by rw [hhead]; simp only [B]; omega
  have ht0 : 0 < top := by omega
  obtain ⟨g0, hg0⟩ : ∃ g, g = head / top := ⟨_, rfl⟩
  obtain ⟨r0, hr0⟩ : ∃ g, g = head % top := ⟨_, rfl⟩
  have t5 := tdiv_nat head top
  rw [← hg0] at t5
  have t6 := tmod_nat head top
  rw [← hr0] at t6
  have hg0B : g0 < 17179869184 := by
    rw [hg0, Nat.div_lt_iff_lt_mul ht0]
    have : 17179869184 * 2147483648 ≤ 17179869184 * top := Nat.mul_le_mul_left _ hVt
    omega
  have hr0B : r0 < top := by rw [hr0]; exact Nat.mod_lt _ ht0
  have t7 : IntKind.u64.wrap (g0 : Int) = g0 := by rw [wrap_u64]; omega
  have t8 : ¬ top = 0 := by omega
  have t9 : (kn1 : Int) < us.length := by omega
  have t10 : (kn : Int) < us.length := by omega
  simp [divS2, p1, p2, i0, i1, dg, t1, t2, t3, t4, t5, t6, t7, t8, t9, t10]
  have hVm : val (mag V) = V := val_mag V
  have hV0 := kk.Vpos
  have p6 : (k : Int) ≤ knp := by omega
  have p7 : (knp : Int) ≤ us.length := by omega
  have p8 : k + np ≤ us.length := by omega
  have p9 : 0 < us.length := by omega
  have p10 : 0 < np := by omega
  have p11 : IntKind.i64.wrap ((k : Int) - 1) = (k : Int) - 1 := by rw [wrap_i64]; omega
  have p12 : IntKind.i64.wrap ((n : Int) - 2) = n2 := by rw [wrap_i64]; omega
  have p13 : (kn2 : Int) < us.length := by omega
  have hnV : (mag V).length < np := by omega
  have hVn : (mag V).length ≤ np := by omega
  have hul41 : us.length < 2 ^ 41 := by omega
  have hWM : W < B ^ np := by rw [hW]; have := val_lt (part_digs hus k np); rwa [part_len us k np p8] at this
  have hVM : V ≤ B ^ np := Nat.le_trans (Nat.le_of_lt hVlt) (Nat.pow_le_pow_right B_pos (by omega))
  have hz : val (us.drop (k + np)) = 0 := hpt.2.1
  -- the end of a round
  have hend : ∀ us2 q, Digs us2 → us2.length = us.length → q = W / V → val us2 + B ^ k * W = val us + B ^ k * (W % V) → val (us2.drop k) = W % V + B ^ np * val (us.drop (k + np)) → ∀ s', Snd s' (divS2 sh n us2 (mag V) top (q :: qs) k) → KN s' := by
    intro us2 q h1 h2 h3 h4 h5 s' hs
    refine hN us2 q h1 (by omega) (by rw [h3]; exact kk.q_lt) ?_ ?_ s' hs
    · rw [h5, hz, Nat.mul_zero, Nat.add_zero]; exact Nat.mod_lt _ hV0
    · have h6 := Nat.div_add_mod W V
      rw [← h3] at h6
      have h7 := congrArg (B ^ k * ·) h6
      simp only [Nat.mul_add] at h7
      have h8 : V * B ^ k * q = B ^ k * (V * q) := by simp only [Nat.mul_assoc, Nat.mul_comm, Nat.mul_left_comm]
      rw [h8]
      omega
  refine loop_go (fun m st => ∃ g r : Nat, g * top + r = head ∧ W / V ≤ g ∧ m = g ∧ g < 17179869184 ∧ r < 8589934592 ∧ st = divS3 sh n us (mag V) top qs k g r) (s0 := divS3 sh n us (mag V) top qs k g0 r0) (n := g0)
    (snd_of (by simp [LeT, divS3]) (by simp [divS3])) ⟨g0, r0, by rw [hg0, hr0, Nat.mul_comm]; exact Nat.div_add_mod _ _, by rw [hg0, hhead]; exact kk.start, rfl, hg0B, by omega, rfl⟩ ?_
  rintro g st ⟨_, r, hgr, hWg, rfl, hgB, hrB, rfl⟩ KM hM
  rw [hhead] at hgr
  clear t5 t6 t7 t1 t2 t3 t4 hg0 hr0 hg0B hr0B
  have y1 : IntKind.u64.wrap (v2 : Int) = v2 := by rw [wrap_u64]; omega
  have y2 : IntKind.u64.wrap (u2 : Int) = u2 := by rw [wrap_u64]; omega
  have hdec : r < B → (B ≤ g ∨ r * B + u2 < g * v2) → IntKind.u64.wrap ((g : Int) - 1) = ((g - 1 : Nat) : Int) ∧ IntKind.u64.wrap ((r : Int) + top) = ((r + top : Nat) : Int) ∧ ∀ s', Snd s' (divS3 sh n us (mag V) top qs k (g - 1) (r + top)) → KM s' := by
    intro h1 h2
    obtain ⟨h3, h4, h5⟩ := kk.dec hgr hWg h2
    simp only [B] at h1
    refine ⟨by rw [wrap_u64]; omega, by rw [wrap_u64]; omega, fun s' hs => hM s' (nx (m := g - 1) hs ⟨g - 1, r + top, by rw [hhead]; exact h4, h5, rfl, by omega, by omega, rfl⟩ (by omega))⟩
  clear hM
  by_cases hc : r < B ∧ (B ≤ g ∨ r * B + u2 < g * v2)
  · obtain ⟨d1, d2, d3⟩ := hdec hc.1 hc.2
    have hrB' : r < 4294967296 := hc.1
    have x1 : (r : Int) < 4294967296 := by omega
    generalize g - 1 = gm at *
    generalize r + top = rt at *
    by_cases c2 : B ≤ g
    · have x2 : (4294967296 : Int) ≤ g := by simp only [B] at c2; omega
      simp [divS3, x1, x2, d1, d2]
      exact d3 _ (snd_of (by simp [LeT, divS3]) (by simp [divS3]))
    · have x2 : ¬ (4294967296 : Int) ≤ g := by simp only [B] at c2; omega
      have hr1 : r * 4294967296 < 18446744073709551616 := by omega
      have hu1' : u2 < 18446744073709551616 := by omega
      have c3 : r * B + u2 < g * v2 := by rcases hc.2 with h | h; exact absurd h c2; exact h
      simp only [B] at c2 c3
      obtain ⟨gv, hgv⟩ : ∃ x, x = g * v2 := ⟨_, rfl⟩
      have hg1 : g ≤ 4294967295 := by omega
      have hv1 : v2 ≤ 4294967295 := by omega
      have hgvB : g * v2 ≤ 4294967295 * 4294967295 := Nat.mul_le_mul hg1 hv1
      rw [← hgv] at hgvB
      have y3 : (g : Int) * v2 = gv := by rw [hgv]; exact (Int.natCast_mul _ _).symm
      have y4 : IntKind.u64.wrap (gv : Int) = gv := by rw [wrap_u64]; omega
      have y5 : IntKind.u64.wrap ((r : Int) * 4294967296) = (r : Int) * 4294967296 := by rw [wrap_u64]; omega
      obtain ⟨ru, hru⟩ : ∃ x, x = r * 4294967296 + u2 := ⟨_, rfl⟩
      have y6 : bOr .u64 ((r : Int) * 4294967296) u2 = ru := by
        have := bOr64 (r * 4294967296) u2 hr1 hu1'
        rw [or_cut r u2 hu2B, ← hru] at this
        rw [← this]; congr 1
      have y7 : (ru : Int) < gv := by omega
      simp [divS3, x1, x2, d1, d2, p12, i3, p1, p3, i2, dg, y1, y2, y3, y4, y5, y6, y7, p13]
      exact ⟨by omega, d3 _ (snd_of (by simp [LeT, divS3]) (by simp [divS3]))⟩
  · clear hdec
    obtain ⟨hgB, hgW⟩ := kk.done hgr hc
    have hrest := rest_of hV0 hWM hVM hWg hgW
    have hgB' : g < 4294967296 := hgB
    have z1 : IntKind.u32.wrap (g : Int) = g := by rw [wrap_u32]; omega
    have tk := takeW_at us k np (mag V) g
    rw [← hW, hVm] at tk
    simp only [hus, mag_digs V, hgB, hnV, p8, hul41, and_self] at tk
    obtain ⟨us1, hus1⟩ : ∃ x, x = put us k np (tkV us k np (mag V) g) := ⟨_, rfl⟩
    rw [← hus1] at tk
    simp only [eW, dg] at tk
    have hk1 : (k : Int) < k + 1 + qs.length := by omega
    have hn2V : n2 < (mag V).length := by omega
    have hru : r < 4294967296 → ∃ gv ru : Nat, (g : Int) * v2 = gv ∧ IntKind.u64.wrap (gv : Int) = gv ∧ IntKind.u64.wrap ((r : Int) * 4294967296) = (r : Int) * 4294967296 ∧ bOr .u64 ((r : Int) * 4294967296) u2 = ru ∧ ¬ (ru : Int) < gv := by
      intro c1
      have hg1 : g ≤ 4294967295 := by omega
      have hv1 : v2 ≤ 4294967295 := by omega
      have hr1 : r * 4294967296 < 18446744073709551616 := by omega
      have hu1' : u2 < 18446744073709551616 := by omega
      have c3 : ¬ r * 4294967296 + u2 < g * v2 := fun h => hc ⟨c1, .inr h⟩
      have y5 : IntKind.u64.wrap ((r : Int) * 4294967296) = (r : Int) * 4294967296 := by rw [wrap_u64]; omega
      have hgvB : g * v2 ≤ 4294967295 * 4294967295 := Nat.mul_le_mul hg1 hv1
      refine ⟨g * v2, r * 4294967296 + u2, (Int.natCast_mul _ _).symm, by rw [wrap_u64]; omega, y5, ?_, by omega⟩
      have := bOr64 (r * 4294967296) u2 hr1 hu1'
      rw [or_cut r u2 hu2B] at this
      rw [← this]; congr 1
    have x2 : ¬ (4294967296 : Int) ≤ g := by omega
    by_cases hWV : W < g * V
    · obtain ⟨f1, f2⟩ := hrest.1 hWV
      have hx1 : tkV us k np (mag V) g = W + B ^ np - g * V := by unfold tkV; rw [← hW, hVm, if_pos hWV]
      have hlt1 : W + B ^ np - g * V < B ^ np := by
        generalize g * V = z at *
        generalize B ^ np = M at *
        omega
      rw [hx1] at hus1
      obtain ⟨a1, a2, a3, a4, a5⟩ := put_val hus p8 hlt1
      rw [← hus1] at a1 a2 a3 a4 a5
      rw [← hW] at a3
      have gb := giveW_at us1 k np (mag V)
      rw [a5, val_dig np _ hlt1, hVm, f2] at gb
      have p8' : k + np ≤ us1.length := by omega
      have hul41' : us1.length < 2 ^ 41 := by omega
      have hmod : W % V < B ^ np := Nat.lt_of_lt_of_le (Nat.mod_lt _ hV0) hVM
      obtain ⟨b1, b2, b3, b4, b5⟩ := put_val a1 p8' hmod
      obtain ⟨us2, hus2⟩ : ∃ x, x = put us1 k np (W % V) := ⟨_, rfl⟩
      rw [← hus2] at gb b1 b2 b3 b4 b5
      simp only [a1, mag_digs V, hVn, p8', hul41', and_self] at gb
      simp only [eW] at gb
      have hdr2 : val (us1.drop (k + np)) = val (us.drop (k + np)) := by
        have h1 : us1.drop (k + np) = us.drop (k + np) := by
          rw [hus1]
          unfold put
          have : ∀ (X Y : List Nat), X.length = k + np → (X ++ Y).drop (k + np) = Y := fun X Y h => by rw [← h, List.drop_left]
          exact this _ _ (by rw [List.length_append, dig_len, List.length_take, Nat.min_eq_left (by omega)])
        rw [h1]
      rw [hdr2] at b4
      rw [a5, val_dig np _ hlt1] at b3
      have hfin := hend us2 (g - 1) b1 (by omega) f1 (by
        generalize B ^ k * (W + B ^ np - g * V) = z at *
        omega) b4
      have z2 : IntKind.u64.wrap ((g : Int) - 1) = ((g - 1 : Nat) : Int) := by
        have : 1 ≤ g := by
          rcases Nat.eq_zero_or_pos g with h | h
          · rw [h, Nat.zero_mul] at hWV; omega
          · exact h
        rw [wrap_u64]; omega
      generalize hgm : g - 1 = gm at *
      have z3 : IntKind.u32.wrap (gm : Int) = gm := by rw [wrap_u32]; omega
      have p6' : (knp : Int) ≤ us1.length := by omega
      have p9' : 0 < us1.length := by omega
      by_cases c1 : r < 4294967296
      · have x1 : (r : Int) < 4294967296 := by omega
        obtain ⟨gv, ru, y3, y4, y5, y6, y7⟩ := hru c1
        simp [divS3, x1, x2, p12, i3, p3, i2, y1, y2, y3, y4, y5, y6, y7, p13, hn2V, p1, p4, p5, p6, p7, p8, p9, p10, p11, z1, z2, z3, tk, gb, hWV, p6', p8', p9', a2, b2, hk1, ix_rev, lset_rev, dg]
        exact ⟨⟨rfl, rfl⟩, hfin _ (snd_of (by simp [LeT, divS2]) (by simp [divS2, dg]))⟩
      · have x1 : ¬ (r : Int) < 4294967296 := by omega
        simp [divS3, x1, p1, p4, p5, p6, p7, p8, p9, p10, p11, z1, z2, z3, tk, gb, hWV, p6', p8', p9', a2, b2, hk1, ix_rev, lset_rev, dg]
        exact ⟨⟨rfl, rfl⟩, hfin _ (snd_of (by simp [LeT, divS2]) (by simp [divS2, dg]))⟩
    · obtain ⟨f1, f2⟩ := hrest.2 hWV
      have hx1 : tkV us k np (mag V) g = W % V := by unfold tkV; rw [← hW, hVm, if_neg hWV, f2]
      have hmod : W % V < B ^ np := Nat.lt_of_lt_of_le (Nat.mod_lt _ hV0) hVM
      rw [hx1] at hus1
      obtain ⟨a1, a2, a3, a4, a5⟩ := put_val hus p8 hmod
      rw [← hus1] at a1 a2 a3 a4 a5
      rw [← hW] at a3
      have hfin := hend us1 g a1 a2 f1 a3 a4
      by_cases c1 : r < 4294967296
      · have x1 : (r : Int) < 4294967296 := by omega
        obtain ⟨gv, ru, y3, y4, y5, y6, y7⟩ := hru c1
        simp [divS3, x1, x2, p12, i3, p3, i2, y1, y2, y3, y4, y5, y6, y7, p13, hn2V, p1, p4, p5, p6, p7, p8, p9, p10, p11, z1, tk, hWV, a2, hk1, ix_rev, lset_rev, dg]
        exact ⟨⟨rfl, rfl⟩, hfin _ (snd_of (by simp [LeT, divS2]) (by simp [divS2, dg]))⟩
      · have x1 : ¬ (r : Int) < 4294967296 := by omega
        simp [divS3, x1, p1, p4, p5, p6, p7, p8, p9, p10, p11, z1, tk, hWV, a2, hk1, ix_rev, lset_rev, dg]
        exact ⟨⟨rfl, rfl⟩, hfin _ (snd_of (by simp [LeT, divS2]) (by simp [divS2, dg]))⟩
end Go.Proofs.YtdkgkcnllhcamaaGreat.Ae

/-! impl.divMag: behind the loop: the rest is shifted back. No condition. -/
namespace Go.Proofs.YtdkgkcnllhcamaaGreat.Ae
open Go Go.RowKit Go.Proofs.YtdkgkcnllhcamaaGreat.Dig

theorem mag_getD : ∀ (i n : Nat), (mag n).getD i 0 = n / B ^ i % B
  | i, 0 => by rw [mag_zero]; simp
  | 0, n + 1 => by rw [mag_pos (by omega)]; simp
  | i + 1, n + 1 => by
    rw [mag_pos (by omega), List.getD_cons_succ, mag_getD i, Nat.div_div_eq_div_mul, Nat.pow_succ, Nat.mul_comm B]
/-- A digit of a number that is shifted back, out of two of its digits. -/
theorem shr_digit (R sh i : Nat) (h : sh ≤ 31) : (R / 2 ^ sh) / B ^ i % B = ((R / B ^ (i + 1) % B) * B + R / B ^ i % B) / 2 ^ sh % B := by
  have hB : B = 2 ^ sh * 2 ^ (32 - sh) := by
    rw [← Nat.pow_add]
    have : sh + (32 - sh) = 32 := by omega
    rw [this]; rfl
  have hp : 0 < 2 ^ sh := Nat.pow_pos (by decide)
  rw [Nat.div_div_eq_div_mul, Nat.mul_comm, ← Nat.div_div_eq_div_mul]
  have e1 : R / B ^ (i + 1) = R / B ^ i / B := by rw [Nat.pow_succ, Nat.div_div_eq_div_mul]
  rw [e1]
  generalize R / B ^ i = z
  obtain ⟨x, hx⟩ : ∃ x, x = z % B := ⟨_, rfl⟩
  obtain ⟨y, hy⟩ : ∃ y, y = z / B % B := ⟨_, rfl⟩
  obtain ⟨t, ht⟩ : ∃ t, t = z / B / B := ⟨_, rfl⟩
  have hz : z = x + B * (y + B * t) := by
    rw [hx, hy, ht, Nat.mod_add_div, Nat.mod_add_div]
  rw [← hx, ← hy]
  have e2 : z = (y * B + x) + 2 ^ sh * (2 ^ (32 - sh) * (B * t)) := by
    have h1 : 2 ^ sh * (2 ^ (32 - sh) * (B * t)) = B * (B * t) := by rw [← Nat.mul_assoc, ← hB]
    rw [h1, hz, Nat.mul_add, Nat.mul_comm y]; omega
  conv => lhs; rw [e2]
  rw [Nat.add_mul_div_left _ _ hp]
  have e3 : 2 ^ (32 - sh) * (B * t) = B * (2 ^ (32 - sh) * t) := Nat.mul_left_comm _ _ _
  rw [e3, Nat.add_mul_mod_self_left]

def divS4 (sh : Nat) (us : List Nat) (n : Nat) (qs : List Nat) (i : Nat) : St := ⟨[.any, .any, .any, .any, .any, .any, .any, .any, .dat (.lit (.int .u64 sh)), .any, .any, .any, .any, .row 77, .any, .any, .any, .any, .win 55 0 n, .any, .any, .any, .any, .any, .any, .any, .any, .any, .any, .any, .any, .any, .any, .any, .any, .any, .any, .any, .any, .any, .any, .any, .any, .any, .any, .any, .any, .any, .any, .any, .any, .any, .any, .any, .any, .any, .any, .any, .any, .any, .any, .any, .any, .any, .any, .any, .any, .any, .any, .any, .any, .any, .any, .any, .any, .any, .any, .any, .any, .any, .any, .any, .any, .any, .any, .any, .any, .any, .any, .any, .any, .any, .any, .any, .any, .any, .any, .any, .any, .any, .any, .any, .any, .any, .any, .any, .any, .any, .any, .any, .any, .any, .any, .any, .any, .any, .any, .any, .any, .any, .any, .any, .any, .any, .any, .any, .any, .any, .any, .any, .any, .any, .any, .any, .any, .any, .any, .any, .any, .any, .any, .any, .any, .any, .any, .any, .any, .any, .any, .any, .any, .any, .any, .any, .any, .any, .any, .any, .any, .any, .any, .any, .any, .any, .any, .any, .any, .any, .any, .any, .any, .any, .any, .dat (.lit (.int .i64 n)), .dat (.lit (.int .i64 i)), .any, .any, .any, .any, .any, .any, .any, .any, .any, .any, .any, .any, .any, .any, .any, .any, .any, .any, .any, .any, .any, .any, .any, .any, .any, .any, .any, .any, .any, .any, .any, .any], [none, none, none, none, none, none, none, none, none, none, none, none, none, none, none, none, none, none, none, none, none, none, none, none, none, none, none, none, none, none, none, none, none, none, none, none, none, none, none, none, none, none, none, none, none, none, none, none, none, none, none, none, none, none, none, some (.row 1 72 (us.map dg)), none, none, none, none, none, none, none, none, none, none, none, none, none, none, none, none, none, none, none, none, none, some (.row 1 72 (qs.map dg)), none, none, none, none, none, none, none, none, none, none, none, none, none, none, none, none, none, none, none, none, none, none, none, none, none, none, none, none, none, none, none, none, none, none, none, none, none, none, none, none, none, none, none, none, none, none, none, none, none, none, none, none, none, none, none, none, none, none, none, none, none, none, none, none, none, none, none, none, none, none, none, none, none, none, none, none, none, none, none, none, none, none, none, none, none, none, none, none, none, none, none, none, none, none, none, none, none, none, none, none, none, none, none, none, none, none, none, none, none, none, none, none, none, none, none, none, none, none, none, none, none, none, none, none, none, none, none, none, none]⟩

set_option maxRecDepth 100000 in
set_option maxHeartbeats 4000000 in
theorem div_tail {sh n V top Q R : Nat} {us qs : List Nat} (hsh : sh ≤ 31) (hus : Digs us) (hqs : Digs qs) (hul : us.length < 2 ^ 41) (hql : qs.length < 2 ^ 41) (hu0 : 0 < us.length) (hq0 : 0 < qs.length) (hQ : val qs = Q) (hR : val us = R * 2 ^ sh) :
    awp Tryz.prog divMf (tbl divTb) divB8 (divSe sh n us (mag V) top qs) (endK Tryz.prog 207 [.tmp 4, .tmp 5] [.dat (.sl 1 ((mag Q).map dg)), .dat (.sl 1 ((mag R).map dg))] []) := by
  simp only [divB8, Tryz.f103, Option.getD, sq1, sq2, inB, inL]
  obtain ⟨Z, hZ⟩ : ∃ Z, Z = R * 2 ^ sh := ⟨_, rfl⟩
  rw [← hZ] at hR
  obtain ⟨m, hm⟩ : ∃ m, m = (mag Z).length := ⟨_, rfl⟩
  have hmu : m ≤ us.length := by rw [hm]; exact mag_lt.2 (by rw [← hR]; exact val_lt hus)
  have htk : us.take m = mag Z := by
    have h1 : dig us.length Z = us := dig_of hus rfl hR
    rw [hm]
    conv => lhs; rw [← h1]
    exact dig_take _ _ (by omega)
  have t1 := trimW_at us 0 us.length
  have hp1 : part us 0 us.length = us := by unfold part; rw [List.drop_zero, List.take_of_length_le (Nat.le_refl _)]
  have hul62 : us.length < 2 ^ 62 := by omega
  rw [hp1, hR, ← hm] at t1
  simp only [hus, hul62, and_self] at t1
  simp [divSe, t1, hu0]
  refine loop_go (fun j st => ∃ (os : List Nat), Digs os ∧ os.length + j = m ∧ val os = (Z / 2 ^ sh) % B ^ os.length ∧ st = divS4 sh (os ++ us.drop os.length) m qs os.length) (s0 := divS4 sh us m qs 0) (n := m)
    (snd_obs (n := 207) [(55, 55, .row 1 72 (us.map dg)), (77, 77, .row 1 72 (qs.map dg))] rfl (by simp) (by simp [divS4])) ⟨[], Digs.nil, by simp, by simp [val, Nat.mod_one], by simp⟩ ?_
  rintro j st ⟨os, hos, hol, hov, rfl⟩ KN hN
  have hp2 : 0 < 2 ^ sh := Nat.pow_pos (by decide)
  have hZR : Z / 2 ^ sh = R := by rw [hZ, Nat.mul_div_cancel _ hp2]
  cases j with
  | zero =>
    have hom : os.length = m := by omega
    have hRZ : R ≤ Z := by rw [hZ]; exact Nat.le_mul_of_pos_right _ hp2
    have hRm : R < B ^ m := Nat.lt_of_le_of_lt hRZ (by rw [hm]; exact mag_lt.1 (Nat.le_refl _))
    have hoR : val os = R := by rw [hov, hZR, hom, Nat.mod_eq_of_lt hRm]
    obtain ⟨cur, hcur⟩ : ∃ x, x = os ++ us.drop os.length := ⟨_, rfl⟩
    have hcl : cur.length = us.length := by rw [hcur, List.length_append, List.length_drop]; omega
    have hcd : Digs cur := by rw [hcur]; exact hos.append (hus.drop _)
    have hpc : part cur 0 m = os := by
      unfold part
      rw [List.drop_zero, hcur, ← hom, List.take_left]
    have t2 := trimW_at cur 0 m
    have hcl62 : cur.length < 2 ^ 62 := by omega
    rw [hpc, hoR] at t2
    simp only [hcd, hcl62, and_self] at t2
    have t3 := trimW_at qs 0 qs.length
    have hp3 : part qs 0 qs.length = qs := by unfold part; rw [List.drop_zero, List.take_of_length_le (Nat.le_refl _)]
    have hql62 : qs.length < 2 ^ 62 := by omega
    rw [hp3, hQ] at t3
    simp only [hqs, hql62, and_self] at t3
    have hmR : (mag R).length ≤ m := mag_lt.2 hRm
    have k1 : (cur.map dg).take (mag R).length = (mag R).map dg := by
      rw [← List.map_take]
      congr 1
      have h1 : dig os.length R = os := dig_of hos rfl hoR
      have h2 : cur.take (mag R).length = os.take (mag R).length := by rw [hcur, List.take_append_of_le_length (by omega)]
      rw [h2]
      conv => lhs; rw [← h1]
      exact dig_take _ _ (by omega)
    have hmQ : (mag Q).length ≤ qs.length := mag_lt.2 (by rw [← hQ]; exact val_lt hqs)
    have k2 : (qs.map dg).take (mag Q).length = (mag Q).map dg := by
      rw [← List.map_take]
      congr 1
      have h1 : dig qs.length Q = qs := dig_of hqs rfl hQ
      conv => lhs; rw [← h1]
      exact dig_take _ _ (by omega)
    have k3 : m ≤ cur.length := by omega
    have k4 : 0 < cur.length := by omega
    have k5 : ¬ (m : Int) < m := by omega
    rw [← hcur, hom]
    simp [divS4, t2, t3, hq0, k3, k4, k5]
    rw [k1, k2]
    exact ⟨hmQ, by omega, Sub.refl _, Sub.refl _⟩
  | succ j =>
    obtain ⟨x, hx⟩ : ∃ x, x = us.getD os.length 0 := ⟨_, rfl⟩
    have hom : os.length < m := by omega
    have hgm : ∀ i, i < m → us.getD i 0 = (mag Z).getD i 0 := fun i hi => by
      rw [← htk, List.getD_eq_getElem?_getD, List.getD_eq_getElem?_getD, List.getElem?_take_of_lt hi]
    have hxZ : x = Z / B ^ os.length % B := by rw [hx, hgm _ hom, mag_getD]
    have hxB : x < 4294967296 := by rw [hx]; exact getD_lt hus _
    obtain ⟨y, hy⟩ : ∃ y, y = (mag Z).getD (os.length + 1) 0 := ⟨_, rfl⟩
    have hyB : y < 4294967296 := by rw [hy]; exact getD_lt (mag_digs Z) _
    have hyZ : y = Z / B ^ (os.length + 1) % B := by rw [hy, mag_getD]
    have hR1 : us.drop os.length = x :: us.drop (os.length + 1) := by
      rw [List.drop_eq_getElem_cons (by omega : os.length < us.length), hx, List.getD_eq_getElem?_getD, List.getElem?_eq_getElem (by omega)]; rfl
    rw [hR1]
    have e1 := ix_at os (us.drop (os.length + 1)) x
    obtain ⟨h, hh⟩ : ∃ h, h = y * 4294967296 + x := ⟨_, rfl⟩
    obtain ⟨hs, hhs⟩ : ∃ hs, hs = h / 2 ^ sh := ⟨_, rfl⟩
    obtain ⟨c', d, hd, hcut, w1, _⟩ := cut32 (hs : Int) hs rfl
    have hdd : d = hs % B := by rw [← hcut, Nat.add_mul_mod_self_left]; exact (Nat.mod_eq_of_lt hd).symm
    have e2 := lset_at os (us.drop (os.length + 1)) x d
    have hdig : d = (Z / 2 ^ sh) / B ^ os.length % B := by
      rw [shr_digit Z sh os.length hsh, ← hyZ, ← hxZ, hdd, hhs, hh]
      simp only [B]
    have q1 : IntKind.u64.wrap ((y : Int) * 4294967296) = (y : Int) * 4294967296 := by rw [wrap_u64]; omega
    have q2 : IntKind.u64.wrap (x : Int) = x := by rw [wrap_u64]; omega
    have q3 : IntKind.u64.wrap (y : Int) = y := by rw [wrap_u64]; omega
    have q4 : bOr .u64 ((y : Int) * 4294967296) x = h := by
      have h1 : y * 4294967296 < 18446744073709551616 := by omega
      have h2 : x < 18446744073709551616 := by omega
      have := bOr64 (y * 4294967296) x h1 h2
      rw [or_cut y x hxB, ← hh] at this
      rw [← this]; congr 1
    have q5 : min sh 64 = sh := by omega
    have q6 : (h : Int).fdiv (2 ^ sh) = (hs : Int) := by
      have e : (2 : Int) ^ sh = ((2 ^ sh : Nat) : Int) := by simp
      rw [e, Int.fdiv_eq_ediv_of_nonneg _ (by omega), hhs]; exact (Int.natCast_ediv _ _).symm
    have q7 : IntKind.i64.wrap ((os.length : Int) + 1) = os.length + 1 := by rw [wrap_i64]; omega
    have q8 : (os.length : Int) < m := by omega
    have hnext : ∀ s', Snd s' (divS4 sh (os ++ d :: us.drop (os.length + 1)) m qs (os.length + 1)) → KN s' := by
      intro s' hs'
      refine hN _ (nx (m := j) (s'' := divS4 sh (os ++ d :: us.drop (os.length + 1)) m qs (os.length + 1)) hs' ⟨os ++ [d], hos.append (Digs.nil.cons hd), ?_, ?_, ?_⟩ (by omega))
      · simp only [List.length_append, List.length_singleton]; omega
      · rw [val_snoc, hov, List.length_append, List.length_singleton, Nat.pow_succ, Nat.mod_mul, hdig]
      · simp only [List.length_append, List.length_singleton, List.append_assoc, List.singleton_append]
    obtain ⟨cur, hcur⟩ : ∃ c, c = os ++ x :: us.drop (os.length + 1) := ⟨_, rfl⟩
    have hcl : cur.length = us.length := by rw [hcur, List.length_append, List.length_cons, List.length_drop]; omega
    have q9 : m ≤ cur.length := by omega
    by_cases hb : os.length + 1 < m
    · have q10 : (os.length : Int) + 1 < m := by omega
      have q11 : ((os.length : Int) + 1).toNat = os.length + 1 := by omega
      have e3 : ix (List.map dg cur) (os.length + 1) = some (dg y) := by
        have := ix_dg cur (os.length + 1) (by omega)
        rw [this]
        congr 1
        have h1 : cur.getD (os.length + 1) 0 = us.getD (os.length + 1) 0 := by
          rw [hcur, ← hR1, List.getD_eq_getElem?_getD, List.getElem?_append_right (by omega), List.getElem?_drop, List.getD_eq_getElem?_getD]
          congr 2; omega
        rw [h1, hgm _ hb, ← hy]
      have q12 : (0 : Int) ≤ (os.length : Int) + 1 := by omega
      rw [← hcur] at e1 e2 ⊢
      generalize hcur2 : os ++ d :: us.drop (os.length + 1) = cur2 at *
      simp [divS4, e1, e2, e3, dg, q1, q2, q3, q4, q5, q6, q7, q8, q9, q10, q11, q12, w1]
      exact hnext _ (snd_of (by simp [LeT, divS4]) (by simp [divS4]))
    · have q10 : ¬ (os.length : Int) + 1 < m := by omega
      have hy0 : y = 0 := by rw [hy]; exact getD_out _ _ (by omega)
      have q13 : bOr .u64 0 (x : Int) = h := by
        have := q4
        rw [hy0] at this
        simpa using this
      have q14 : IntKind.u64.wrap 0 = 0 := by rw [wrap_u64]; rfl
      rw [← hcur] at e1 e2 ⊢
      generalize hcur2 : os ++ d :: us.drop (os.length + 1) = cur2 at *
      simp [divS4, e1, e2, dg, q2, q13, q14, q5, q6, q7, q8, q9, q10, w1]
      exact hnext _ (snd_of (by simp [LeT, divS4]) (by simp [divS4]))
set_option maxRecDepth 100000 in
theorem div_exit {sh n top : Nat} {us vs qs : List Nat} (KN : St → Prop) (K' : Exit → St → Prop) (h : K' .normal (divSe sh n us vs top qs)) : awp Tryz.prog divMf (tbl divTb) divL2 (divS2 sh n us vs top qs 0) (Klp KN (Kblk 2 K')) := by
  simp only [divL2, divB7, Tryz.f103, Option.getD, sq1, sq2, inB, inL]
  simp [divS2]
  exact h
end Go.Proofs.YtdkgkcnllhcamaaGreat.Ae

/-! impl.divMag: quotient and rest of digits. No condition. -/
namespace Go.Proofs.YtdkgkcnllhcamaaGreat.Ae
open Go Go.RowKit Go.Proofs.YtdkgkcnllhcamaaGreat.Dig
variable {N : NR}

set_option maxRecDepth 100000 in
set_option maxHeartbeats 4000000 in
theorem divMag_spec : SpecD N Tryz.prog 103 divC := by
  refine rdD (mf := divMf) divTb_ok (fn := Tryz.f103) (by kernel_rfl) rfl (by kernel_rfl) ?_
  rintro ⟨a, b⟩ ⟨ha, hb, hb0⟩
  refine ⟨by show 2 ≤ 207; decide, ?_⟩
  simp only [n2E, Tryz.f103]
  simp only [Sm] at ha hb
  have hb0 : 0 < b := hb0
  generalize hq : a / b = Q
  generalize hr : a % b = R
  have c1 := cmpC_at a b
  have c2 := @cmpV_neg a b
  simp only [Sm, ha, hb, and_self] at c1
  by_cases hab : a < b
  · have h1 : Q = 0 := by rw [← hq]; exact Nat.div_eq_of_lt hab
    have h2 : R = a := by rw [← hr]; exact Nat.mod_eq_of_lt hab
    have h3 : cmpV a b < 0 := c2.2 hab
    subst h1 h2
    simp only [eM, eW] at c1 ⊢
    simp [c1, h3, mag_zero]
    have := maxLen_ge
    omega
  · have h3 : ¬ cmpV a b < 0 := fun h => hab (c2.1 h)
    by_cases hl : (mag b).length = 1
    · obtain ⟨d, hd⟩ : ∃ d, mag b = [d] := List.length_eq_one_iff.1 hl
      have hbd : b = d := by have := val_mag b; rw [hd] at this; simp [val] at this; exact this.symm
      have hdB : d < B := by have := mag_digs b; rw [hd] at this; exact this.head
      have s1 := shortC_at a d
      rw [← hbd, hq, hr] at s1
      have hRB : R < B := by rw [← hr]; exact Nat.lt_trans (Nat.mod_lt _ hb0) (by rw [hbd]; exact hdB)
      have t1 := trimC_at' [R] (Digs.nil.cons hRB)
      have e1 : val [R] = R := by simp [val]
      rw [e1] at t1
      have e2 : ix (List.map dg (mag b)) 0 = some (dg b) := by rw [hd, hbd]; rfl
      have hbB : b < B := by rw [hbd]; exact hdB
      simp only [Sm, ha, hb0, hbB, and_self, dg] at s1
      simp only [List.map_cons, List.map_nil, dg] at t1
      simp only [eM, eW] at c1 s1 ⊢
      simp [c1, h3, hl, e2, dg, s1, t1]
    · obtain ⟨n, hn⟩ : ∃ n, n = (mag b).length := ⟨_, rfl⟩
      have hn0 : n ≠ 0 := by rw [hn]; exact fun h => by rw [mag_len_zero] at h; omega
      have hn2 : 2 ≤ n := by omega
      obtain ⟨bt, hbt⟩ : ∃ bt, bt = (mag b).getD (n - 1) 0 := ⟨_, rfl⟩
      obtain ⟨sh, hsh⟩ : ∃ sh, sh = 32 - bl bt := ⟨_, rfl⟩
      have hbtB : bt < B := by rw [hbt]; exact getD_lt (mag_digs b) _
      have e1 := ix_dg (mag b) (n - 1) (by omega)
      rw [← hbt] at e1
      have s1 := lz32C_at bt
      rw [← hsh] at s1
      simp only [hbtB, dg] at s1
      have hsh32 : sh ≤ 32 := by omega
      obtain ⟨U, hU⟩ : ∃ U, U = a * 2 ^ sh := ⟨_, rfl⟩
      obtain ⟨V, hV⟩ : ∃ V, V = b * 2 ^ sh := ⟨_, rfl⟩
      have s2 := shiftO_at a sh
      have s3 := shiftO_at b sh
      have hsh40 : sh < 2 ^ 40 := by omega
      rw [← hU] at s2
      rw [← hV] at s3
      simp only [Sm, ha, hb, hsh40, and_self] at s2 s3
      have r1 : IntKind.i64.wrap ((n : Int) - 1) = ((n - 1 : Nat) : Int) := by rw [wrap_i64]; omega
      have r2 : IntKind.u64.wrap (sh : Int) = sh := by rw [wrap_u64]; omega
      have hl' : ¬ (n : Int) = 1 := by omega
      simp only [eM, eW] at c1 s2 s3 ⊢
      generalize hn1 : n - 1 = n1 at *
      simp [c1, h3, hl', ← hn, e1, dg, r1, r2, s1, s2, s3]
      have hmx := maxLen_ge
      have hn1' : (mag b).length = n1 + 1 := by omega
      obtain ⟨hsh31, hVl, hVt⟩ := norm_facts hn1' hbt hsh
      rw [← hV] at hVl hVt
      have hUla : (mag a).length ≤ (mag U).length := mag_len_le (by rw [hU]; exact Nat.le_mul_of_pos_right _ (Nat.pow_pos (by decide)))
      have h2s : 2 ^ sh ≤ 2 ^ 31 := Nat.pow_le_pow_right (by decide) hsh31
      have hUlt : U < B ^ (mag a).length * 2 ^ sh := by
        rw [hU]; exact Nat.mul_lt_mul_of_pos_right (mag_lt.1 (Nat.le_refl _)) (Nat.pow_pos (by decide))
      have hUl2 : (mag U).length ≤ (mag a).length + 1 := by
        refine mag_lt.2 (Nat.lt_of_lt_of_le hUlt ?_)
        rw [Nat.pow_succ]; exact Nat.mul_le_mul_left _ (by simp only [B]; omega)
      refine loop_go (fun m st => ∃ us : List Nat, Digs us ∧ val us = U ∧ (mag a).length ≤ us.length ∧ us.length + m = (mag a).length + 1 ∧ st = divS1 a b sh n us (mag V)) (s0 := divS1 a b sh n (mag U) (mag V)) (n := (mag a).length + 1 - (mag U).length)
        (snd_of (by simp [LeT, divS1]) (by simp [divS1])) ⟨mag U, mag_digs U, val_mag U, hUla, by omega, rfl⟩ ?_
      rintro m st ⟨us, hus, hvU, hula, hul, rfl⟩ KN hN
      cases m with
      | succ m =>
        have q1 : (us.length : Int) ≤ (mag a).length := by omega
        simp [divS1, q1]
        refine ⟨by omega, hN _ (nx (m := m) (s'' := divS1 a b sh n (us ++ [0]) (mag V)) (snd_obs (n := 207) [(55, 66, .row 1 72 ((us ++ [0]).map dg)), (58, 58, .row 1 72 ((mag V).map dg))] rfl (by simp [dg]) (by simp [divS1])) ⟨us ++ [0], hus.append (Digs.nil.cons B_pos), by rw [val_snoc_zero]; exact hvU, by simp; omega, by simp; omega, rfl⟩ (by omega))⟩
      | zero =>
        have q1 : ¬ (us.length : Int) ≤ (mag a).length := by omega
        have e3 := ix_dg (mag V) n1 (by omega)
        obtain ⟨top, htop⟩ : ∃ top, top = (mag V).getD n1 0 := ⟨_, rfl⟩
        rw [← htop] at e3 hVt
        have htB : top < 4294967296 := by rw [htop]; exact getD_lt (mag_digs V) _
        have q2 : IntKind.u64.wrap (top : Int) = top := by rw [wrap_u64]; omega
        obtain ⟨k0, hk0⟩ : ∃ k0 : Nat, k0 = us.length - n := ⟨_, rfl⟩
        have hlanb : n ≤ (mag a).length := by rw [hn]; exact mag_len_le (by omega)
        have q3 : IntKind.i64.wrap ((us.length : Int) - n) = k0 := by rw [wrap_i64]; omega
        have q4 : IntKind.i64.wrap ((k0 : Int) - 1) = (k0 : Int) - 1 := by rw [wrap_i64]; omega
        simp [divS1, q1, r1, e3, dg, q2, q3, q4]
        refine ⟨by omega, by omega, ?_⟩
        have hV0 : 0 < V := by rw [hV]; exact Nat.mul_pos hb0 (Nat.pow_pos (by decide))
        have hla : (mag a).length = us.length - 1 := by omega
        have hstart : val (us.drop k0) < V := by
          have hul1 : us.length = (mag a).length + 1 := by omega
          obtain ⟨ut, hut⟩ : ∃ ut, ut = us.getD (mag a).length 0 := ⟨_, rfl⟩
          have h1 := val_top1 hul1
          rw [hvU, ← hut] at h1
          have hut2 : ut < 2 ^ sh := by
            have h2 : B ^ (mag a).length * ut < B ^ (mag a).length * 2 ^ sh := by omega
            exact Nat.lt_of_mul_lt_mul_left h2
          have hdl : (us.drop k0).length = n1 + 1 := by rw [List.length_drop]; omega
          have h3 := val_top1 hdl
          have h4 : (us.drop k0).getD n1 0 = ut := by
            rw [hut, List.getD_eq_getElem?_getD, List.getElem?_drop, List.getD_eq_getElem?_getD]
            congr 2; omega
          rw [h4] at h3
          have h5 := val_lt ((hus.drop k0).take n1)
          rw [List.length_take, Nat.min_eq_left (by omega)] at h5
          have h6 := val_top1 hVl
          rw [val_mag, ← htop] at h6
          have h7 : B ^ n1 * (ut + 1) ≤ B ^ n1 * top := Nat.mul_le_mul_left _ (by omega)
          rw [Nat.mul_add, Nat.mul_one] at h7
          generalize B ^ n1 * ut = z1 at *
          generalize B ^ n1 * top = z2 at *
          generalize B ^ n1 = z3 at *
          omega
        have hk0' : k0 + n = (mag a).length + 1 := by omega
        refine loop_go (fun k st => ∃ us qs : List Nat, Digs us ∧ Digs qs ∧ us.length = (mag a).length + 1 ∧ k + qs.length = k0 ∧ val (us.drop k) < V ∧ val us + V * (B ^ k * val qs) = U ∧ st = divS2 sh n us (mag V) top qs k) (s0 := divS2 sh n us (mag V) top [] k0) (n := k0)
          (Snd.trans (Snd.frz _ [58]) (snd_obs (n := 207) [(55, 55, .row 1 72 (us.map dg)), (58, 58, .frow 1 72 ((mag V).map dg)), (77, 77, .row 1 72 (List.replicate k0 z32 ++ []))] rfl (by simp [St.frz, z32]) (by simp [divS2, St.frz]))) ⟨us, [], hus, Digs.nil, by omega, by simp, hstart, by simp [val, hvU], rfl⟩ ?_
        clear hN hula hul KN hstart hvU hus q1 c1 e1 s1 s2 s3 r2 h3 c2 q3 hk0 hla us
        rintro k st ⟨us, qs, hus, hqs, hul, hkq, hdr, hval, rfl⟩ KN hN
        cases k with
        | zero =>
          rw [List.drop_zero] at hdr
          rw [Nat.pow_zero, Nat.one_mul] at hval
          have hp2 : 0 < 2 ^ sh := Nat.pow_pos (by decide)
          have hUV : U / V = Q := by rw [hU, hV, Nat.mul_div_mul_right _ _ hp2, hq]
          have hUVm : U % V = R * 2 ^ sh := by rw [hU, hV, Nat.mul_mod_mul_right, hr]
          have hQ : val qs = Q := by rw [← hUV, ← hval, Nat.add_mul_div_left _ _ hV0, Nat.div_eq_of_lt hdr, Nat.zero_add]
          have hR : val us = R * 2 ^ sh := by rw [← hUVm, ← hval, Nat.add_mul_mod_self_left, Nat.mod_eq_of_lt hdr]
          have ht := div_tail (sh := sh) (n := n) (V := V) (top := top) (Q := Q) (R := R) hsh31 hus hqs (by omega) (by omega) (by omega) (by omega) hQ hR
          simp only [divB8, Tryz.f103, Option.getD, sq2] at ht
          have hx := fun K' => div_exit (sh := sh) (n := n) (us := us) (vs := mag V) (top := top) (qs := qs) KN K'
          simp only [divL2, divB7, Tryz.f103, Option.getD, sq1, sq2, inB, inL] at hx
          exact hx _ ht
        | succ k =>
          have hst := div_step (sh := sh) (n := n) (n1 := n1) (V := V) (top := top) (k := k) (la := (mag a).length) (us := us) (qs := qs) hn2 hn1 hVl htop hVt htB ha hus hul (by omega) hdr KN
          simp only [divL2, divB7, Tryz.f103, Option.getD, sq1, sq2, inB, inL] at hst
          refine hst _ (fun us' q h1 h2 h3 h4 h5 s' hs => hN _ (nx (m := k) (s'' := divS2 sh n us' (mag V) top (q :: qs) k) hs ⟨us', q :: qs, h1, hqs.cons h3, h2, by simp; omega, h4, ?_, rfl⟩ (by omega)))
          rw [← hval, ← h5, val, Nat.pow_succ]
          simp only [Nat.mul_add, Nat.mul_assoc, Nat.add_assoc]
theorem divMag_ok : callable Tryz.prog 103 = true := by kernel_rfl
end Go.Proofs.YtdkgkcnllhcamaaGreat.Ae

/-! spec.l1Trim, l1Mag, l1Abs, l1MagCmp. No condition. -/
namespace Go.Proofs.YtdkgkcnllhcamaaGreat.Ae
open Go Go.RowKit Go.Proofs.YtdkgkcnllhcamaaGreat.Dig
variable {N : NR}

def sTrimS (xs : List Nat) (n : Nat) : St := ⟨[.dat (eW xs), .any, .any, .dat (.lit (.int .i64 n)), .any, .any, .any, .any, .any, .any, .any, .any, .any, .any, .any, .any, .any, .any, .any, .any, .any], [none, none, none, none, none, none, none, none, none, none, none, none, none, none, none, none, none, none, none, none, none]⟩
theorem l1Trim_spec : SpecD N Tryz.prog 76 trimC := by
  refine rdD (mf := fun _ => false) tbl_nil (fn := Tryz.f76) (by kernel_rfl) rfl (by kernel_rfl) ?_
  rintro ⟨ds, hd⟩ hlen
  have hlen : ds.length < 2 ^ 62 := hlen
  refine ⟨by show 1 ≤ 21; decide, ?_⟩
  simp only [trimE, Tryz.f76]
  simp [eW]
  refine loop_go (fun n s => n ≤ ds.length ∧ val (ds.take n) = val ds ∧ s = sTrimS ds n) (s0 := sTrimS ds ds.length) (n := ds.length) (snd_of (by simp [LeT, sTrimS, eW]) rfl) ⟨Nat.le_refl _, by rw [List.take_length], rfl⟩ ?_
  rintro n s ⟨hn, hv, rfl⟩ KN hN
  cases n with
  | zero =>
    have e1 : mag (val ds) = [] := by rw [← hv]; simp [val, mag_zero]
    simp [sTrimS, eW, eM, e1, lsub]
  | succ m =>
    have e1 : IntKind.i64.wrap (m : Int) = m := by rw [wrap_i64]; omega
    have e2 : ix (ds.map dg) m = some (dg (ds.getD m 0)) := ix_dg _ _ (by omega)
    obtain ⟨y, hy⟩ : ∃ y, y = ds.getD m 0 := ⟨_, rfl⟩
    rw [← hy] at e2
    have hs : ds.take (m + 1) = ds.take m ++ [y] := by
      rw [hy]; exact Dig.take_succ _ _ _ (getD_some (by omega))
    have hv2 := hv
    rw [hs] at hv2
    have e3 : m + 1 ≤ ds.length := hn
    have e4 : lsub (ds.map dg) 0 (m + 1) = (ds.take (m + 1)).map dg := by simp [lsub]
    have e5 : (m : Int) < ds.length := by omega
    simp [sTrimS, eW, e1, e2, e3, e4, e5, dg]
    refine ⟨fun h => hN _ (nx (m := m) (s'' := sTrimS ds m) (snd_of (by simp [LeT, sTrimS, eW]) (by simp [sTrimS])) ⟨by omega, by rw [← hv2, h, val_snoc_zero], rfl⟩ (by omega)), fun h => ?_⟩
    have h5 : mag (val ds) = ds.take m ++ [y] := by
      rw [← hv2]
      exact mag_val_snoc (by rw [← hs]; exact hd.take _) h
    rw [eM, h5]
    simp [eW]
    exact ⟨by omega, by rw [← List.map_take, hs, List.map_append, List.map_take]; exact Sub.refl _⟩
theorem l1Trim_ok : callable Tryz.prog 76 = true := by kernel_rfl

/-! A number of one word. -/
structure N1 where
  a : Nat
def u64D (n : Nat) : D := .lit (.int .u64 n)
theorem u64D_inj {a b : Nat} (h : u64D a = u64D b) : a = b := by simp [u64D] at h; omega
def n1E (p : N1) : List D := [u64D p.a]
theorem n1E_inj (p q : N1) (h : n1E p = n1E q) : p = q := by
  obtain ⟨a⟩ := p; obtain ⟨c⟩ := q
  simp only [n1E, List.cons.injEq, and_true] at h
  rw [u64D_inj h]
noncomputable def magC := ctD n1E (fun p => p.a < 18446744073709551616) (fun p => [eM p.a])
theorem magC_at (a : Nat) : magC [u64D a] = (a < 18446744073709551616, [eM a]) := ctD_at n1E_inj ⟨a⟩
theorem magC_at' (a : Nat) : magC [.lit (.int .u64 a)] = (a < 18446744073709551616, [.sl 1 ((mag a).map dg)]) := magC_at a
theorem two_digits (x : Nat) : val [x % 4294967296, x / 4294967296] = x := by
  simp only [val, B, Nat.mul_zero, Nat.add_zero]; exact Nat.mod_add_div x 4294967296
theorem l1Mag_spec : SpecD N Tryz.prog 45 magC := by
  refine rdD (mf := fun f => f == 76) (tbl_cons (f := 76) (c := .data trimC) l1Trim_spec l1Trim_ok tbl_nil) (fn := Tryz.f45) (by kernel_rfl) rfl (by kernel_rfl) ?_
  rintro ⟨x⟩ hx
  have hx : x < 18446744073709551616 := hx
  refine ⟨by show 1 ≤ 10; decide, ?_⟩
  simp only [n1E, u64D, Tryz.f45]
  obtain ⟨l, hl⟩ : ∃ l, l = x % 4294967296 := ⟨_, rfl⟩
  obtain ⟨h, hh⟩ : ∃ h, h = x / 4294967296 := ⟨_, rfl⟩
  have r1 : IntKind.u32.wrap (x : Int) = l := by rw [wrap_u32]; omega
  have r2 : IntKind.u32.wrap ((x : Int) / 4294967296) = h := by rw [wrap_u32]; omega
  have hd : Digs [l, h] := (Digs.nil.cons (by simp only [B]; omega)).cons (by simp only [B]; omega)
  have t1 := trimC_at' [l, h] hd
  have hv : val [l, h] = x := by rw [hl, hh]; exact two_digits x
  rw [hv] at t1
  simp [dg] at t1
  simp [eM, eW, dg, r1, r2, t1]
  rfl
theorem l1Mag_ok : callable Tryz.prog 45 = true := by kernel_rfl

/-! A whole number of one word. -/
structure Z1 where
  a : Int
def i64D (n : Int) : D := .lit (.int .i64 n)
theorem i64D_inj {a b : Int} (h : i64D a = i64D b) : a = b := by simp [i64D] at h; omega
def z1E (p : Z1) : List D := [i64D p.a]
theorem z1E_inj (p q : Z1) (h : z1E p = z1E q) : p = q := by
  obtain ⟨a⟩ := p; obtain ⟨c⟩ := q
  simp only [z1E, List.cons.injEq, and_true] at h
  rw [i64D_inj h]
def I64 (x : Int) : Prop := -9223372036854775808 ≤ x ∧ x ≤ 9223372036854775807
noncomputable def absC := ctD z1E (fun p => I64 p.a) (fun p => [u64D p.a.natAbs])
theorem absC_at (a : Int) : absC [i64D a] = (I64 a, [u64D a.natAbs]) := ctD_at z1E_inj ⟨a⟩
theorem absC_at' (a : Int) : absC [.lit (.int .i64 a)] = (I64 a, [.lit (.int .u64 (a.natAbs : Int))]) := absC_at a
theorem l1Abs_spec : SpecD N Tryz.prog 34 absC := by
  refine rdD (mf := fun f => false) tbl_nil (fn := Tryz.f34) (by kernel_rfl) rfl (by kernel_rfl) ?_
  rintro ⟨x⟩ hx
  have hx : -9223372036854775808 ≤ x ∧ x ≤ 9223372036854775807 := hx
  refine ⟨by show 1 ≤ 10; decide, ?_⟩
  simp only [z1E, i64D, u64D, Tryz.f34]
  generalize hy : ((x.natAbs : Nat) : Int) = y
  by_cases h : x < 0
  · have r1 : IntKind.u64.wrap (-IntKind.u64.wrap x) = y := by rw [wrap_u64, wrap_u64]; omega
    simp [h, r1]
  · have r1 : IntKind.u64.wrap x = y := by rw [wrap_u64]; omega
    simp [h, r1]
theorem l1Abs_ok : callable Tryz.prog 34 = true := by kernel_rfl

/-! Digits compared. -/
def sgnC (a b : Nat) : Int := if a < b then -1 else if b < a then 1 else 0
noncomputable def sCmpC := ctD n2E (fun p => Sm p.a ∧ Sm p.b) (fun p => [.lit (.int .i64 (sgnC p.a p.b))])
theorem sCmpC_at (a b : Nat) : sCmpC [eM a, eM b] = (Sm a ∧ Sm b, [.lit (.int .i64 (sgnC a b))]) := ctD_at n2E_inj ⟨a, b⟩
def sCmpS (a b : Nat) (n : Nat) : St := ⟨[.dat (eM a), .dat (eM b), .any, .any, .any, .dat (.lit (.int .i64 ((n : Int) - 1))), .any, .any, .any, .any, .any, .any, .any, .any, .any, .any, .any, .any, .any, .any, .any, .any, .any, .any, .any, .any, .any, .any, .any, .any, .any, .any, .any, .any, .any, .any, .any, .any, .any, .any, .any], [none, none, none, none, none, none, none, none, none, none, none, none, none, none, none, none, none, none, none, none, none, none, none, none, none, none, none, none, none, none, none, none, none, none, none, none, none, none, none, none, none]⟩
theorem l1MagCmp_spec : SpecD N Tryz.prog 43 sCmpC := by
  refine rdD (mf := fun _ => false) tbl_nil (fn := Tryz.f43) (by kernel_rfl) rfl (by kernel_rfl) ?_
  rintro ⟨a, b⟩ ⟨ha, hb⟩
  refine ⟨by show 2 ≤ 41; decide, ?_⟩
  simp only [n2E, Tryz.f43]
  simp only [Sm] at ha hb
  have lt1 : a < b → sgnC a b = -1 := fun h => by unfold sgnC; rw [if_pos h]
  have lt2 : b < a → sgnC a b = 1 := fun h => by unfold sgnC; rw [if_neg (by omega), if_pos h]
  have lt3 : a = b → sgnC a b = 0 := fun h => by unfold sgnC; rw [if_neg (by omega), if_neg (by omega)]
  generalize sgnC a b = v at lt1 lt2 lt3 ⊢
  have r2 : IntKind.i64.wrap (((mag a).length : Int) - 1) = (mag a).length - 1 := by rw [wrap_i64]; omega
  have r3 : IntKind.i64.wrap (((mag b).length : Int) - 1) = (mag b).length - 1 := by rw [wrap_i64]; omega
  by_cases hl : (mag a).length = (mag b).length
  · simp [eM, eW, r3, hl]
    refine loop_go (fun n s => n ≤ (mag a).length ∧ (mag a).drop n = (mag b).drop n ∧ s = sCmpS a b n) (s0 := sCmpS a b (mag a).length) (n := (mag a).length)
      (snd_of (by simp [LeT, sCmpS, eM, eW, hl]) (by simp [sCmpS])) ⟨Nat.le_refl _, by rw [List.drop_eq_nil_of_le (Nat.le_refl _), List.drop_eq_nil_of_le (by omega)], rfl⟩ ?_
    rintro n s ⟨hn, hd, rfl⟩ KN hN
    cases n with
    | zero =>
      have e : a = b := mag_inj (by simpa using hd)
      simp [sCmpS, eM, eW, lt3 e]
    | succ k =>
      obtain ⟨x, hx⟩ : ∃ x, x = (mag a).getD k 0 := ⟨_, rfl⟩
      obtain ⟨y, hy⟩ : ∃ y, y = (mag b).getD k 0 := ⟨_, rfl⟩
      have hka : k < (mag a).length := by omega
      have hkb : k < (mag b).length := by omega
      have e1 := ix_dg _ _ hka
      have e2 := ix_dg _ _ hkb
      rw [← hx] at e1
      rw [← hy] at e2
      have r4 : IntKind.i64.wrap ((k : Int) - 1) = (k : Int) - 1 := by rw [wrap_i64]; omega
      have l1 : x < y → a < b := fun h => by
        have := val_cmp (mag_digs a) (mag_digs b) hl (by rw [getD_some hka, hx]) (by rw [getD_some hkb, hy]) hd h
        rwa [val_mag, val_mag] at this
      have l2 : y < x → b < a := fun h => by
        have := val_cmp (mag_digs b) (mag_digs a) hl.symm (by rw [getD_some hkb, hy]) (by rw [getD_some hka, hx]) hd.symm h
        rwa [val_mag, val_mag] at this
      simp [sCmpS, eM, eW, e1, e2, dg, r4]
      refine ⟨fun h => ⟨fun h' => ?_, fun h' => ?_⟩, fun h => ?_⟩
      · rw [lt1 (l1 (by omega))]; exact Sub.refl _
      · rw [lt2 (l2 (by omega))]; exact Sub.refl _
      · exact hN _ (nx (s'' := sCmpS a b k) (snd_of (by simp [LeT, sCmpS, eM, eW]) (by simp [sCmpS])) ⟨by omega, drop_step hka hkb hd (by rw [← hx, ← hy]; omega), rfl⟩ (by omega))
  · have h4 : ¬ ((mag a).length : Int) = (mag b).length := by omega
    have h1 : (mag a).length < (mag b).length → v = -1 := fun h => lt1 (mag_len_lt h)
    have h2 : (mag b).length < (mag a).length → v = 1 := fun h => lt2 (mag_len_lt h)
    by_cases h3 : (mag a).length < (mag b).length
    · simp [eM, eW, r2, hl, h3, h4, h1 h3]
    · simp [eM, eW, r2, hl, h3, h4, h2 (by omega)]
theorem l1MagCmp_ok : callable Tryz.prog 43 = true := by kernel_rfl
end Go.Proofs.YtdkgkcnllhcamaaGreat.Ae

/-! spec.l1MagAdd, l1MagSub. No condition. -/
namespace Go.Proofs.YtdkgkcnllhcamaaGreat.Ae
open Go Go.RowKit Go.Proofs.YtdkgkcnllhcamaaGreat.Dig
variable {N : NR}

/-- A row that is written from the left. -/
theorem lset_fwd (os : List Nat) (k : Nat) (v : D) : lset (List.map dg os ++ List.replicate (k + 1) z32) os.length v = List.map dg os ++ v :: List.replicate k z32 := by
  have h : os.length = (List.map dg os).length := by simp
  rw [List.replicate_succ]; unfold lset; rw [h, List.set_append_right _ _ (Nat.le_refl _), Nat.sub_self]; rfl
theorem ix_fwd (os : List Nat) (k : Nat) : ix (List.map dg os ++ List.replicate (k + 1) z32) os.length = some z32 := by
  have h : os.length = (List.map dg os).length := by simp
  unfold ix; rw [h, List.getElem?_append_right (Nat.le_refl _), Nat.sub_self]; rfl

@[simp] theorem z32_size : z32.size = 1 := rfl
def sAddS (p q : Nat) (os : List Nat) (c k : Nat) : St := ⟨[.dat (eM p), .dat (eM q), .any, .any, .any, .row 18, .dat (.lit (.int .u64 c)), .dat (.lit (.int .i64 os.length)), .any, .any, .any, .any, .any, .any, .any, .any, .any, .any, .any, .any, .any, .any, .any, .any, .any, .any, .any, .any, .any, .any, .any, .any, .any, .any, .any, .any, .any, .any, .any, .any, .any, .any, .any, .any, .any, .any, .any, .any, .any, .any, .any, .any, .any, .any, .any, .any, .any, .any], [none, none, none, none, none, none, none, none, none, none, none, none, none, none, none, none, none, none, some (.row 1 72 (os.map dg ++ List.replicate (k + 1) z32)), none, none, none, none, none, none, none, none, none, none, none, none, none, none, none, none, none, none, none, none, none, none, none, none, none, none, none, none, none, none, none, none, none, none, none, none, none, none, none]⟩

theorem l1MagAdd_spec : SpecD N Tryz.prog 38 addC := by
  refine rdD (mf := fun f => f == 76) (tbl_cons (f := 76) (c := .data trimC) l1Trim_spec l1Trim_ok tbl_nil) (fn := Tryz.f38) (by kernel_rfl) rfl (by kernel_rfl) ?_
  rintro ⟨a, b⟩ ⟨ha, hb⟩
  refine ⟨by show 2 ≤ 58; decide, ?_⟩
  simp only [n2E, Tryz.f38]
  simp only [Sm] at ha hb
  generalize hr : a + b = r
  obtain ⟨p, q, hs, hle, hlt, hc⟩ : ∃ p q, p + q = r ∧ (mag q).length ≤ (mag p).length ∧ (mag p).length < 2 ^ 40 ∧ (((mag a).length < (mag b).length ∧ p = b ∧ q = a) ∨ (¬ (mag a).length < (mag b).length ∧ p = a ∧ q = b)) := by
    by_cases h : (mag a).length < (mag b).length
    · exact ⟨b, a, by omega, by omega, hb, .inl ⟨h, rfl, rfl⟩⟩
    · exact ⟨a, b, by omega, by omega, ha, .inr ⟨h, rfl, rfl⟩⟩
  have e0 : IntKind.i64.wrap ((mag p).length + 1) = (mag p).length + 1 := by rw [wrap_i64]; omega
  have hmx := maxLen_ge
  have e1 : (mag p).length + 1 ≤ maxLen := by omega
  rcases hc with ⟨h, h1, h2⟩ | ⟨h, h1, h2⟩
  all_goals
    subst h1 h2
    simp [eM, eW, h, e0, e1]
    refine ⟨by omega, ?_⟩
    refine loop_go (fun n s => ∃ (os : List Nat) (c : Nat), Digs os ∧ c ≤ 1 ∧ val os + B ^ os.length * c = val ((mag p).take os.length) + val ((mag q).take os.length) ∧ os.length + n = (mag p).length ∧ s = sAddS p q os c n) (s0 := sAddS p q [] 0 (mag p).length) (n := (mag p).length)
      (snd_of (by simp [LeT, sAddS, eM, eW]) (by simp [sAddS, z32])) ⟨[], 0, Digs.nil, by omega, by simp [val], by simp, rfl⟩ ?_
    rintro n s ⟨os, c, hos, hcc, hv, hl, rfl⟩ KN hN
    cases n with
    | zero =>
      have hl0 : (mag p).length = os.length := by omega
      rw [val_take_all _ _ (by omega), val_take_all _ _ (by omega), val_mag, val_mag, hs] at hv
      have hd : Digs (os ++ [c]) := hos.append (Digs.nil.cons (by simp only [B]; omega))
      have t1 := trimC_at' (os ++ [c]) hd
      rw [val_snoc, hv] at t1
      have e2 : os.length + 1 < 2 ^ 62 := by omega
      have e3 := lset_fwd os 0
      have e4 := ix_fwd os 0
      simp [z32] at e3 e4
      have r1 : IntKind.u32.wrap (c : Int) = c := by rw [wrap_u32]; omega
      simp [dg] at t1
      simp [sAddS, eM, eW, z32, dg, hl0, e3, e4, r1, t1]
      simpa using e2
    | succ k =>
      obtain ⟨x, hx⟩ : ∃ x, x = (mag p).getD os.length 0 := ⟨_, rfl⟩
      obtain ⟨y, hy⟩ : ∃ y, y = (mag q).getD os.length 0 := ⟨_, rfl⟩
      have hxB : x < 4294967296 := by rw [hx]; exact getD_lt (mag_digs p) _
      have hyB : y < 4294967296 := by rw [hy]; exact getD_lt (mag_digs q) _
      have r1 : IntKind.u64.wrap (x : Int) = x := by rw [wrap_u64]; omega
      have r2 : IntKind.u64.wrap (y : Int) = y := by rw [wrap_u64]; omega
      have r3 : IntKind.u64.wrap ((c : Int) + x) = c + x := by rw [wrap_u64]; omega
      have r4 : IntKind.u64.wrap ((c : Int) + x + y) = c + x + y := by rw [wrap_u64]; omega
      have r6 : IntKind.i64.wrap ((os.length : Int) + 1) = os.length + 1 := by rw [wrap_i64]; omega
      have r7 : os.length < (mag p).length := by omega
      have f1 := ix_dg _ _ r7
      rw [← hx] at f1
      have step : ∀ (c' d : Nat), d < B → d + B * c' = c + x + y → ∀ s', Snd s' (sAddS p q (os ++ [d]) c' k) → KN s' := by
        intro c' d hd ht s' hs
        refine hN _ (nx hs ⟨_, _, hos.append (Digs.nil.cons hd), ?_, ?_, ?_, rfl⟩ (by omega))
        · simp only [B] at ht; omega
        · rw [val_snoc, List.length_append, List.length_singleton, val_take_getD, val_take_getD, ← hx, ← hy, Nat.pow_succ, Nat.mul_assoc, Nat.add_assoc, ← Nat.mul_add, ht]
          simp only [Nat.mul_add]
          omega
        · rw [List.length_append, List.length_singleton]; omega
      have e0 := lset_fwd os (k + 1)
      have e9 := ix_fwd os (k + 1)
      have fin : ∀ (e : Int), e = ((c + x + y : Nat) : Int) → ∃ c' d : Nat, IntKind.u32.wrap e = d ∧ e / 4294967296 = c' ∧ ∀ s', Snd s' (sAddS p q (os ++ [d]) c' k) → KN s' := fun e he => by
        obtain ⟨c', d, h1, h2, h3, h4⟩ := cut32 e _ he
        exact ⟨c', d, h3, h4, step c' d h1 h2⟩
      by_cases hb' : os.length < (mag q).length
      · have f2 := ix_dg _ _ hb'
        rw [← hy] at f2
        obtain ⟨c', d, h1, h2, h3⟩ := fin (c + x + y) (by omega)
        simp [sAddS, eM, eW, hb', f1, f2, e0, e9, dg, r1, r2, r3, r4, r6, r7, h1, h2]
        exact ⟨by omega, h3 _ (snd_of (by simp [LeT, sAddS, eM, eW]) (by simp [sAddS, dg]))⟩
      · have hy0 : y = 0 := by rw [hy]; exact getD_out _ _ hb'
        obtain ⟨c', d, h1, h2, h3⟩ := fin (c + x) (by omega)
        simp [sAddS, eM, eW, hb', f1, e0, e9, dg, r1, r2, r3, r4, r6, r7, h1, h2]
        exact ⟨by omega, h3 _ (snd_of (by simp [LeT, sAddS, eM, eW]) (by simp [sAddS, dg]))⟩
theorem l1MagAdd_ok : callable Tryz.prog 38 = true := by kernel_rfl
end Go.Proofs.YtdkgkcnllhcamaaGreat.Ae

/-! spec.l1MagSub. No condition. -/
namespace Go.Proofs.YtdkgkcnllhcamaaGreat.Ae
open Go Go.RowKit Go.Proofs.YtdkgkcnllhcamaaGreat.Dig
variable {N : NR}

/-- A difference's digit and what is borrowed, in one word. -/
theorem bor64 (x y c : Nat) (hx : x < 4294967296) (hy : y < 4294967296) (hc : c ≤ 1) : ∃ (t1 t2 : Int) (c' d : Nat), d < B ∧ c' ≤ 1 ∧ d + y + c = x + B * c' ∧ IntKind.u64.wrap ((x : Int) - c) = t1 ∧ IntKind.u64.wrap (t1 - y) = t2 ∧ IntKind.u32.wrap t2 = d ∧ t2 / 9223372036854775808 = c' ∧ (y = 0 → t2 = t1) := by
  obtain ⟨t1, h1⟩ : ∃ t1 : Int, t1 = ((x : Int) - c) % 18446744073709551616 := ⟨_, rfl⟩
  obtain ⟨t2, h2⟩ : ∃ t2 : Int, t2 = (t1 - y) % 18446744073709551616 := ⟨_, rfl⟩
  have e1 : IntKind.u64.wrap ((x : Int) - c) = t1 := by rw [wrap_u64, h1]
  have e2 : IntKind.u64.wrap (t1 - y) = t2 := by rw [wrap_u64, h2]
  have h3 : t2 = ((x : Int) - c - y) % 18446744073709551616 := by omega
  have e0 : y = 0 → t2 = t1 := by intro h; subst h; omega
  rcases Nat.lt_or_ge x (y + c) with h | h
  · refine ⟨t1, t2, 1, x + 4294967296 - y - c, by simp only [B]; omega, by omega, by simp only [B]; omega, e1, e2, ?_, ?_, e0⟩
    · rw [wrap_u32]; omega
    · omega
  · refine ⟨t1, t2, 0, x - y - c, by simp only [B]; omega, by omega, by simp only [B]; omega, e1, e2, ?_, ?_, e0⟩
    · rw [wrap_u32]; omega
    · omega
def sSubS (a b : Nat) (os : List Nat) (c k : Nat) : St := ⟨[.dat (eM a), .dat (eM b), .any, .any, .any, .row 11, .dat (.lit (.int .u64 c)), .dat (.lit (.int .i64 os.length)), .any, .any, .any, .any, .any, .any, .any, .any, .any, .any, .any, .any, .any, .any, .any, .any, .any, .any, .any, .any, .any, .any, .any, .any, .any, .any, .any, .any, .any, .any, .any, .any, .any, .any, .any, .any, .any], [none, none, none, none, none, none, none, none, none, none, none, some (.row 1 72 (os.map dg ++ List.replicate k z32)), none, none, none, none, none, none, none, none, none, none, none, none, none, none, none, none, none, none, none, none, none, none, none, none, none, none, none, none, none, none, none, none, none]⟩

theorem l1MagSub_spec : SpecD N Tryz.prog 44 subC := by
  refine rdD (mf := fun f => f == 76) (tbl_cons (f := 76) (c := .data trimC) l1Trim_spec l1Trim_ok tbl_nil) (fn := Tryz.f44) (by kernel_rfl) rfl (by kernel_rfl) ?_
  rintro ⟨a, b⟩ ⟨ha, hb, hab⟩
  refine ⟨by show 2 ≤ 45; decide, ?_⟩
  simp only [n2E, Tryz.f44]
  simp only [Sm] at ha hb
  have hab : b ≤ a := hab
  have hle : (mag b).length ≤ (mag a).length := mag_len_le hab
  simp [eM, eW]
  refine ⟨by omega, ?_⟩
  refine loop_go (fun n s => ∃ (os : List Nat) (c : Nat), Digs os ∧ c ≤ 1 ∧ val os + val ((mag b).take os.length) = val ((mag a).take os.length) + B ^ os.length * c ∧ os.length + n = (mag a).length ∧ s = sSubS a b os c n) (s0 := sSubS a b [] 0 (mag a).length) (n := (mag a).length)
    (snd_of (by simp [LeT, sSubS, eM, eW]) (by simp [sSubS, z32])) ⟨[], 0, Digs.nil, by omega, by simp [val], by simp, rfl⟩ ?_
  rintro n s ⟨os, c, hos, hc, hv, hl, rfl⟩ KN hN
  cases n with
  | zero =>
    have hl0 : (mag a).length = os.length := by omega
    have e1 : val os = a - b := by
      have hvl := val_lt hos
      rw [val_take_all _ _ (by omega), val_take_all _ _ (by omega), val_mag, val_mag] at hv
      rcases Nat.le_one_iff_eq_zero_or_eq_one.1 hc with rfl | rfl
      · omega
      · omega
    have e2 : os.length < 2 ^ 62 := by omega
    simp [sSubS, eM, eW, hl0, trimC_at' os hos, e1]
    simpa using e2
  | succ k =>
    obtain ⟨x, hx⟩ : ∃ x, x = (mag a).getD os.length 0 := ⟨_, rfl⟩
    obtain ⟨y, hy⟩ : ∃ y, y = (mag b).getD os.length 0 := ⟨_, rfl⟩
    have hxB : x < 4294967296 := by rw [hx]; exact getD_lt (mag_digs a) _
    have hyB : y < 4294967296 := by rw [hy]; exact getD_lt (mag_digs b) _
    have ha' : os.length < (mag a).length := by omega
    have e1 := ix_dg _ _ ha'
    rw [← hx] at e1
    have r1 : IntKind.u64.wrap (x : Int) = x := by rw [wrap_u64]; omega
    have r2 : IntKind.u64.wrap (y : Int) = y := by rw [wrap_u64]; omega
    have r6 : IntKind.i64.wrap ((os.length : Int) + 1) = os.length + 1 := by rw [wrap_i64]; omega
    obtain ⟨t1, t2, c', d, hd, hc', hcut, q1, q2, q3, q4, q5⟩ := bor64 x y c hxB hyB hc
    have step : ∀ s', Snd s' (sSubS a b (os ++ [d]) c' k) → KN s' := by
      intro s' hs
      refine hN _ (nx hs ⟨_, _, hos.append (Digs.nil.cons hd), hc', ?_, ?_, rfl⟩ (by omega))
      · rw [val_snoc, List.length_append, List.length_singleton, val_take_getD, val_take_getD, ← hx, ← hy, Nat.pow_succ, Nat.mul_assoc]
        have h1 := congrArg (B ^ os.length * ·) hcut
        simp only [Nat.mul_add] at h1
        omega
      · rw [List.length_append, List.length_singleton]; omega
    have e0 := lset_fwd os k
    have e9 := ix_fwd os k
    by_cases hb' : os.length < (mag b).length
    · have e2 := ix_dg _ _ hb'
      rw [← hy] at e2
      simp [sSubS, eM, eW, ha', hb', e1, e2, e0, e9, dg, r1, r2, r6, q1, q2, q3, q4]
      refine ⟨by omega, ?_⟩
      exact step _ (snd_of (by simp [LeT, sSubS, eM, eW]) (by simp [sSubS, dg]))
    · have hy0 : y = 0 := by rw [hy]; exact getD_out _ _ hb'
      have q6 := q5 hy0
      subst q6
      simp [sSubS, eM, eW, ha', hb', e1, e0, e9, dg, r1, r6, q1, q3, q4]
      refine ⟨by omega, ?_⟩
      exact step _ (snd_of (by simp [LeT, sSubS, eM, eW]) (by simp [sSubS, dg]))
theorem l1MagSub_ok : callable Tryz.prog 44 = true := by kernel_rfl
end Go.Proofs.YtdkgkcnllhcamaaGreat.Ae

/-! spec.l1MagMul. No condition. -/
namespace Go.Proofs.YtdkgkcnllhcamaaGreat.Ae
open Go Go.RowKit Go.Proofs.YtdkgkcnllhcamaaGreat.Dig
variable {N : NR}

def sMulS (a b : Nat) (os : List Nat) (i k : Nat) : St := ⟨[.dat (eM a), .dat (eM b), .any, .any, .any, .row 15, .dat (.lit (.int .i64 i)), .any, .any, .any, .any, .any, .any, .any, .any, .any, .any, .any, .any, .any, .any, .any, .any, .any, .any, .any, .any, .any, .any, .any, .any, .any, .any, .any, .any, .any, .any, .any, .any, .any, .any, .any, .any, .any, .any, .any, .any, .any, .any, .any, .any, .any, .any, .any, .any, .any, .any, .any, .any, .any, .any, .any, .any, .any, .any, .any, .any, .any], [none, none, none, none, none, none, none, none, none, none, none, none, none, none, none, some (.row 1 72 (os.map dg ++ List.replicate k z32)), none, none, none, none, none, none, none, none, none, none, none, none, none, none, none, none, none, none, none, none, none, none, none, none, none, none, none, none, none, none, none, none, none, none, none, none, none, none, none, none, none, none, none, none, none, none, none, none, none, none, none, none]⟩
def sMulT (a b : Nat) (os : List Nat) (i k c j : Nat) : St := ⟨[.dat (eM a), .dat (eM b), .any, .any, .any, .row 15, .dat (.lit (.int .i64 i)), .dat (.lit (.int .u64 c)), .dat (.lit (.int .i64 j)), .any, .any, .any, .any, .any, .any, .any, .any, .any, .any, .any, .any, .any, .any, .any, .any, .any, .any, .any, .any, .any, .any, .any, .any, .any, .any, .any, .any, .any, .any, .any, .any, .any, .any, .any, .any, .any, .any, .any, .any, .any, .any, .any, .any, .any, .any, .any, .any, .any, .any, .any, .any, .any, .any, .any, .any, .any, .any, .any], [none, none, none, none, none, none, none, none, none, none, none, none, none, none, none, some (.row 1 72 (os.map dg ++ List.replicate k z32)), none, none, none, none, none, none, none, none, none, none, none, none, none, none, none, none, none, none, none, none, none, none, none, none, none, none, none, none, none, none, none, none, none, none, none, none, none, none, none, none, none, none, none, none, none, none, none, none, none, none, none, none]⟩

theorem l1MagMul_spec : SpecD N Tryz.prog 77 mulC := by
  refine rdD (mf := fun f => f == 76) (tbl_cons (f := 76) (c := .data trimC) l1Trim_spec l1Trim_ok tbl_nil) (fn := Tryz.f77) (by kernel_rfl) rfl (by kernel_rfl) ?_
  rintro ⟨a, b⟩ ⟨ha, hb⟩
  refine ⟨by show 2 ≤ 68; decide, ?_⟩
  simp only [n2E, Tryz.f77]
  simp only [Sm] at ha hb
  have r1 : IntKind.i64.wrap (((mag a).length : Int) + (mag b).length) = ((mag a).length + (mag b).length : Nat) := by rw [wrap_i64]; omega
  have r0 : (((mag a).length : Int) + (mag b).length).toNat = (mag a).length + (mag b).length := by omega
  simp [eM, eW, r1, r0]
  refine ⟨by omega, ?_⟩
  refine loop_go (fun n s => ∃ (os : List Nat) (i : Nat), Digs os ∧ os.length = i + (mag b).length ∧ i + n = (mag a).length ∧ val os = val ((mag a).take i) * b ∧ s = sMulS a b os i n) (s0 := sMulS a b (List.replicate (mag b).length 0) 0 (mag a).length) (n := (mag a).length)
    (snd_of (by simp [LeT, sMulS, eM, eW]) (by
      have e : List.map dg (List.replicate (mag b).length 0) ++ List.replicate (mag a).length z32 = List.replicate ((mag a).length + (mag b).length) (D.lit (.int .u32 0)) := by
        rw [List.map_replicate, Nat.add_comm]; exact List.replicate_append_replicate
      simp only [sMulS, e])) ⟨_, 0, Digs.zeros _, by simp, by simp, by simp [val_zeros, val], rfl⟩ ?_
  rintro n s ⟨os, i, hos, hol, hl, hv, rfl⟩ KN hN
  cases n with
  | zero =>
    have e1 : val os = a * b := by rw [hv, val_take_all _ _ (by omega), val_mag]
    have e2 : os.length < 2 ^ 62 := by omega
    have e3 : (i : Int) = (mag a).length := by omega
    simp [sMulS, eM, eW, trimC_at' os hos, e1, e3]
    simpa using e2
  | succ k =>
    obtain ⟨x, hx⟩ : ∃ x, x = (mag a).getD i 0 := ⟨_, rfl⟩
    have hxB : x < 4294967296 := by rw [hx]; exact getD_lt (mag_digs a) _
    have hia : i < (mag a).length := by omega
    have e1 := ix_dg _ _ hia
    rw [← hx] at e1
    have r6 : IntKind.i64.wrap ((i : Int) + 1) = i + 1 := by rw [wrap_i64]; omega
    have r7 : (i : Int) < (mag a).length := by omega
    simp [sMulS, eM, eW, e1, r7, dg]
    refine loop_go (fun n s => ∃ (os' : List Nat) (j c : Nat), Digs os' ∧ os'.length = i + (mag b).length ∧ j + n = (mag b).length ∧ c < B ∧ val os' + B ^ i * B ^ j * c = val os + B ^ i * x * val ((mag b).take j) ∧ s = sMulT a b os' i (k + 1) c j) (s0 := sMulT a b os i (k + 1) 0 0) (n := (mag b).length)
      (snd_of (by simp [LeT, sMulT, eM, eW]) (by simp [sMulT, dg, List.replicate_succ])) ⟨os, 0, 0, hos, hol, by simp, B_pos, by simp [val], rfl⟩ ?_
    rintro m s ⟨os', j, c, hos', hol', hjl, hc, hv', rfl⟩ KM hM
    cases m with
    | zero =>
      have e2 : (j : Int) = (mag b).length := by omega
      have r8 : IntKind.i64.wrap ((i : Int) + (mag b).length) = (os'.length : Int) := by rw [wrap_i64]; omega
      have r9 : IntKind.u32.wrap (c : Int) = c := by
        simp only [B] at hc
        rw [wrap_u32]; omega
      have r10 : (os'.length : Int) < os'.length + (k + 1) := by omega
      simp [sMulT, eM, eW, e2, r6, r8, r9, r10, ix_mid, lset_mid]
      refine hN _ (nx (s'' := sMulS a b (os' ++ [c]) (i + 1) k) (snd_of (by simp [LeT, sMulS, eM, eW]) (by simp [sMulS, dg])) ⟨_, _, hos'.append (Digs.nil.cons hc), ?_, ?_, ?_, rfl⟩ (by omega))
      · simp only [List.length_append, List.length_singleton]; omega
      · omega
      · have hv2 := hv'
        rw [val_take_all _ _ (by omega : (mag b).length ≤ j), val_mag, hv] at hv2
        rw [val_snoc, hol', Nat.pow_add, val_take_getD, ← hx, Nat.add_mul]
        have : j = (mag b).length := by omega
        rw [← this]
        exact hv2
    | succ m =>
      obtain ⟨y, hy⟩ : ∃ y, y = (mag b).getD j 0 := ⟨_, rfl⟩
      have hyB : y < B := by rw [hy]; exact getD_lt (mag_digs b) _
      have hjb : j < (mag b).length := by omega
      have e2 := ix_dg _ _ hjb
      rw [← hy] at e2
      have hij : i + j < os'.length := by omega
      obtain ⟨o, ho⟩ : ∃ o, o = os'.getD (i + j) 0 := ⟨_, rfl⟩
      have hoB : o < B := by rw [ho]; exact getD_lt hos' _
      have e3 := ix_left os' (List.replicate (k + 1) z32) (i + j) hij
      rw [← ho] at e3
      have hxy : x * y ≤ 4294967295 * 4294967295 := by
        simp only [B] at hyB
        exact Nat.mul_le_mul (by omega) (by omega)
      simp only [B] at hyB hoB hc
      have q1 : IntKind.u64.wrap (x : Int) = x := by rw [wrap_u64]; omega
      have q2 : IntKind.u64.wrap (y : Int) = y := by rw [wrap_u64]; omega
      have q3 : IntKind.u64.wrap (o : Int) = o := by rw [wrap_u64]; omega
      obtain ⟨p, hp⟩ : ∃ p, p = x * y := ⟨_, rfl⟩
      have hp' : (x : Int) * y = p := by rw [hp]; exact (Int.natCast_mul _ _).symm
      have q4 : IntKind.u64.wrap (p : Int) = p := by rw [wrap_u64]; omega
      have q5 : IntKind.u64.wrap ((p : Int) + o) = p + o := by rw [wrap_u64]; omega
      have q6 : IntKind.u64.wrap ((p : Int) + o + c) = p + o + c := by rw [wrap_u64]; omega
      have q7 : IntKind.i64.wrap ((i : Int) + j) = i + j := by rw [wrap_i64]; omega
      have q8 : ((i : Int) + j).toNat = i + j := by omega
      have q9 : (j : Int) < (mag b).length := by omega
      have q10 : IntKind.i64.wrap ((j : Int) + 1) = j + 1 := by rw [wrap_i64]; omega
      have q11 : (i : Int) + j < os'.length + (k + 1) := by omega
      have q12 : (0 : Int) ≤ i + j := by omega
      obtain ⟨c', d, hd, hcut, w1, w2⟩ := cut32 ((p : Int) + o + c) (c + (p + o)) (by omega)
      have e4 := lset_left os' (List.replicate (k + 1) z32) (i + j) d hij
      simp [sMulT, eM, eW, e1, hia, hjb, e2, e3, e4, dg, q1, q2, q3, hp', q4, q5, q6, q7, q8, q9, q10, q11, q12, w1, w2]
      refine hM _ (nx (m := m) (s'' := sMulT a b (os'.set (i + j) d) i (k + 1) c' (j + 1)) (snd_of (by simp [LeT, sMulT, eM, eW]) (by simp [sMulT, dg])) ⟨_, _, _, hos'.set _ hd, by rw [List.length_set]; exact hol', by omega, ?_, ?_, rfl⟩ (by omega))
      · simp only [B] at hd hcut ⊢; omega
      · have h1 := val_set os' (i + j) d hij
        rw [← ho, Nat.pow_add] at h1
        rw [hp] at hcut
        rw [val_take_getD, ← hy, Nat.pow_succ, Nat.mul_add]
        have h2 := mul_step (B ^ i) (B ^ j) x y o c d c' _ _ h1 hcut
        omega
theorem l1MagMul_ok : callable Tryz.prog 77 = true := by kernel_rfl
end Go.Proofs.YtdkgkcnllhcamaaGreat.Ae

/-! spec.l1MagDiv1. No condition. -/
namespace Go.Proofs.YtdkgkcnllhcamaaGreat.Ae
open Go Go.RowKit Go.Proofs.YtdkgkcnllhcamaaGreat.Dig
variable {N : NR}

noncomputable def div1C := ctD n2dE (fun p => Sm p.a ∧ 0 < p.b ∧ p.b < B) (fun p => [eM (p.a / p.b), eM (p.a % p.b)])
theorem div1C_at (a b : Nat) : div1C [eM a, dg b] = (Sm a ∧ 0 < b ∧ b < B, [eM (a / b), eM (a % b)]) := ctD_at n2dE_inj ⟨a, b⟩
def div1S (a b : Nat) (qs : List Nat) (r k : Nat) : St := ⟨[.dat (eM a), .dat (dg b), .any, .any, .any, .any, .row 12, .dat (.lit (.int .u64 r)), .dat (.lit (.int .i64 ((k : Int) - 1))), .any, .any, .any, .any, .any, .any, .any, .any, .any, .any, .any, .any, .any, .any, .any, .any, .any, .any, .any, .any, .any, .any, .any, .any, .any, .any, .any, .any, .any, .any, .any, .any, .any, .any, .any], [none, none, none, none, none, none, none, none, none, none, none, none, some (.row 1 72 (List.replicate k z32 ++ qs.map dg)), none, none, none, none, none, none, none, none, none, none, none, none, none, none, none, none, none, none, none, none, none, none, none, none, none, none, none, none, none, none, none]⟩

theorem l1MagDiv1_spec : SpecD N Tryz.prog 74 div1C := by
  refine rdD (mf := fun f => f == 76) (tbl_cons (f := 76) (c := .data trimC) l1Trim_spec l1Trim_ok (tbl_cons (f := 45) (c := .data magC) l1Mag_spec l1Mag_ok tbl_nil)) (fn := Tryz.f74) (by kernel_rfl) rfl (by kernel_rfl) ?_
  rintro ⟨a, b⟩ ⟨ha, hb0, hb⟩
  refine ⟨by show 2 ≤ 44; decide, ?_⟩
  simp only [n2dE, Tryz.f74]
  generalize hq0 : a / b = q0
  generalize hm0 : a % b = m0
  simp only [Sm] at ha hb0 hb
  have r1 : IntKind.i64.wrap (((mag a).length : Int) - 1) = ((mag a).length : Int) - 1 := by rw [wrap_i64]; omega
  simp [eM, eW, dg, r1]
  refine ⟨by omega, ?_⟩
  refine loop_go (fun n s => ∃ (qs : List Nat) (r : Nat), Digs qs ∧ r < b ∧ qs.length + n = (mag a).length ∧ val ((mag a).drop n) = val qs * b + r ∧ s = div1S a b qs r n) (s0 := div1S a b [] 0 (mag a).length) (n := (mag a).length)
    (snd_of (by simp [LeT, div1S, eM, eW, dg]) (by simp [div1S, z32])) ⟨[], 0, Digs.nil, hb0, by simp, by rw [List.drop_eq_nil_of_le (Nat.le_refl _)]; simp [val], rfl⟩ ?_
  rintro n s ⟨qs, r, hqs, hr, hl, hv, rfl⟩ KN hN
  simp only [B] at hb
  cases n with
  | zero =>
    rw [List.drop_zero, val_mag, Nat.mul_comm] at hv
    have e1 : q0 = val qs := by rw [← hq0]; rw [hv, Nat.mul_add_div hb0, Nat.div_eq_of_lt hr, Nat.add_zero]
    have e2 : m0 = r := by rw [← hm0]; rw [hv, Nat.mul_add_mod, Nat.mod_eq_of_lt hr]
    have e3 : qs.length < 2 ^ 62 := by omega
    have m1 := magC_at' r
    have t2 : tbl [(76, Ct.data trimC), (45, .data magC)] 45 = some (.data magC) := rfl
    have t1 := trimC_at' qs hqs
    simp [dg] at t1
    simp [div1S, eM, eW, dg, t1, t2, m1, e1, e2]
    exact ⟨by simpa using e3, by omega⟩
  | succ k =>
    obtain ⟨x, hx⟩ : ∃ x, x = (mag a).getD k 0 := ⟨_, rfl⟩
    have hxB : x < 4294967296 := by rw [hx]; exact getD_lt (mag_digs a) _
    have hk : k < (mag a).length := by omega
    have e1 := ix_dg _ _ hk
    rw [← hx] at e1
    have hrb : r * 4294967296 ≤ 4294967294 * 4294967296 := Nat.mul_le_mul_right _ (by omega)
    obtain ⟨h, hh⟩ : ∃ h, h = r * 4294967296 + x := ⟨_, rfl⟩
    have q1 : IntKind.u64.wrap ((r : Int) * 4294967296) = (r : Int) * 4294967296 := by rw [wrap_u64]; omega
    have q2 : IntKind.u64.wrap (x : Int) = x := by rw [wrap_u64]; omega
    have q3 : bOr .u64 ((r : Int) * 4294967296) x = h := by
      have := bOr64 (r * 4294967296) x (by omega) (by omega)
      rw [or_cut r x hxB, ← hh] at this
      rw [← this]; congr 1
    have q4 : IntKind.u64.wrap (b : Int) = b := by rw [wrap_u64]; omega
    obtain ⟨q, hq⟩ : ∃ q, q = h / b := ⟨_, rfl⟩
    obtain ⟨r', hr'⟩ : ∃ r', r' = h % b := ⟨_, rfl⟩
    have hqB : q < 4294967296 := by
      rw [hq, Nat.div_lt_iff_lt_mul hb0, hh]
      have : (r + 1) * 4294967296 ≤ b * 4294967296 := Nat.mul_le_mul_right _ hr
      omega
    have q5 := tdiv_nat h b
    rw [← hq] at q5
    have q6 := tmod_nat h b
    rw [← hr'] at q6
    have q7 : IntKind.u64.wrap (q : Int) = q := by rw [wrap_u64]; omega
    have q8 : IntKind.u32.wrap (q : Int) = q := by rw [wrap_u32]; omega
    have q9 : IntKind.i64.wrap ((k : Int) - 1) = (k : Int) - 1 := by rw [wrap_i64]; omega
    have q10 : (b : Int) ≠ 0 := by omega
    have q11 : (k : Int) < k + 1 + qs.length := by omega
    have hb1 : ¬ b = 0 := by omega
    simp [div1S, eM, eW, e1, dg, q1, q2, q3, q4, q5, q6, q7, q8, q9, q11, hb1, ix_rev, lset_rev]
    refine hN _ (nx (m := k) (s'' := div1S a b (q :: qs) r' k) (snd_of (by simp [LeT, div1S, eM, eW, dg]) (by simp [div1S, dg])) ⟨_, _, hqs.cons hqB, by rw [hr']; exact Nat.mod_lt _ hb0, by simp; omega, ?_, rfl⟩ (by omega))
    rw [drop_val hk, ← hx, hv, val, Nat.add_mul, hq, hr']
    have h1 := Nat.div_add_mod h b
    rw [Nat.mul_comm] at h1
    have h2 : B * (val qs * b + r) = B * val qs * b + B * r := by rw [Nat.mul_add, Nat.mul_assoc]
    simp only [B] at *
    omega
theorem l1MagDiv1_ok : callable Tryz.prog 74 = true := by kernel_rfl
end Go.Proofs.YtdkgkcnllhcamaaGreat.Ae

/-! spec.l1Shl: its result is a new slice. No condition. -/
namespace Go.Proofs.YtdkgkcnllhcamaaGreat.Ae
open Go Go.RowKit Go.Proofs.YtdkgkcnllhcamaaGreat.Dig
variable {N : NR}

structure Sh3 where
  a : Nat
  s : Nat
  m : Nat
def sh3E (p : Sh3) : List D := [eM p.a, .lit (.int .u64 p.s), .lit (.int .i64 p.m)]
theorem sh3E_inj (p q : Sh3) (h : sh3E p = sh3E q) : p = q := by
  obtain ⟨a, b, m⟩ := p; obtain ⟨c, d, n⟩ := q
  simp only [sh3E, List.cons.injEq, and_true] at h
  have h2 := h.2.1
  injection h2 with h2
  injection h2 with _ h2
  have h3 := h.2.2
  injection h3 with h3
  injection h3 with _ h3
  rw [eM_inj h.1, Int.ofNat.inj h2, Int.ofNat.inj h3]
noncomputable def shlO := ctD sh3E (fun p => Sm p.a ∧ p.s < 32 ∧ p.m ≤ 1 ∧ (p.m = 0 → p.a * 2 ^ p.s < B ^ (mag p.a).length)) (fun p => (dig ((mag p.a).length + p.m) (p.a * 2 ^ p.s)).map dg)
theorem shlO_at (a s m : Nat) : shlO [eM a, .lit (.int .u64 s), .lit (.int .i64 m)] = ((Sm a ∧ s < 32 ∧ m ≤ 1 ∧ (m = 0 → a * 2 ^ s < B ^ (mag a).length)), (dig ((mag a).length + m) (a * 2 ^ s)).map dg) := ctD_at sh3E_inj ⟨a, s, m⟩
def shlS (a s m : Nat) (os : List Nat) (c k : Nat) : St := ⟨[.dat (eM a), .dat (.lit (.int .u64 s)), .dat (.lit (.int .i64 m)), .any, .any, .any, .any, .row 15, .dat (.lit (.int .u64 c)), .dat (.lit (.int .i64 os.length)), .any, .any, .any, .any, .any, .any, .any, .any, .any, .any, .any, .any, .any, .any, .any, .any, .any, .any, .any, .any, .any, .any, .any, .any, .any, .any, .any, .any, .any, .any, .any, .any, .any, .any, .any, .any, .any], [none, none, none, none, none, none, none, none, none, none, none, none, none, none, none, some (.row 1 72 (os.map dg ++ List.replicate (k + m) z32)), none, none, none, none, none, none, none, none, none, none, none, none, none, none, none, none, none, none, none, none, none, none, none, none, none, none, none, none, none, none, none]⟩

theorem l1Shl_specO : SpecO N Tryz.prog 75 1 72 shlO := by
  refine rdO (by decide) (mf := fun f => false) tbl_nil (fn := Tryz.f75) (by kernel_rfl) rfl (by kernel_rfl) ?_
  rintro ⟨a, s, m⟩ ⟨ha, hs32, hm, hm0⟩
  refine ⟨by show 3 ≤ 47; decide, List.all_eq_true.2 (fun d hd => by obtain ⟨k, _, rfl⟩ := List.mem_map.1 hd; rfl), ?_⟩
  simp only [sh3E, Tryz.f75]
  have hs32 : s < 32 := hs32
  have hm : m ≤ 1 := hm
  have hm0 : m = 0 → a * 2 ^ s < B ^ (mag a).length := hm0
  simp only [Sm] at ha
  have r5 : IntKind.i64.wrap (((mag a).length : Int) + m) = (mag a).length + m := by rw [wrap_i64]; omega
  have r55 : (((mag a).length : Int) + m).toNat = (mag a).length + m := by omega
  have h2s : 2 ^ s ≤ 2 ^ 31 := Nat.pow_le_pow_right (by decide) (by omega)
  generalize hos : (dig ((mag a).length + m) (a * 2 ^ s)).map dg = res
  simp [eM, eW, r5, r55]
  refine ⟨by omega, ?_⟩
  refine loop_go (fun n st => ∃ (os : List Nat) (c : Nat), Digs os ∧ os.length + n = (mag a).length ∧ c < 2 ^ s ∧ val os + B ^ os.length * c = 2 ^ s * val ((mag a).take os.length) ∧ st = shlS a s m os c n) (s0 := shlS a s m [] 0 (mag a).length) (n := (mag a).length)
    (snd_of (by simp [LeT, shlS, eM, eW]) (by simp [shlS, z32])) ⟨_, 0, Digs.nil, by simp, Nat.pow_pos (by decide), by simp [val], rfl⟩ ?_
  rintro n st ⟨os, c, hod, hl, hc, hv, rfl⟩ KN hN
  cases n with
  | zero =>
    have hl0 : (mag a).length = os.length := by omega
    have e4 : IntKind.u32.wrap (c : Int) = c := by rw [wrap_u32]; omega
    have hcB : c < B := by simp only [B]; omega
    have hv2 := hv
    rw [val_take_all _ _ (by omega), val_mag, Nat.mul_comm (2 ^ s) a] at hv2
    rcases Nat.le_one_iff_eq_zero_or_eq_one.1 hm with rfl | rfl
    · have h1 := hm0 rfl

      rw [hl0] at h1
      have hc0 : c = 0 := by
        rcases Nat.eq_zero_or_pos c with h | h
        · exact h
        · have : B ^ os.length * 1 ≤ B ^ os.length * c := Nat.mul_le_mul_left _ h
          generalize B ^ os.length = M at *
          omega
      have h2 : dig os.length (a * 2 ^ s) = os := dig_of hod rfl (by rw [hc0] at hv2; omega)
      rw [hl0, Nat.add_zero, h2] at hos
      simp [shlS, eM, eW, hl0]
      exact ⟨6, 15, _, rfl, rfl, .inl ⟨rfl, hos⟩⟩
    · have h2 : dig (os.length + 1) (a * 2 ^ s) = os ++ [c] := dig_of (hod.append (Digs.nil.cons hcB)) (by simp) (by rw [val_snoc, hv2])
      rw [hl0, h2] at hos
      have e3 := lset_fwd os 0
      have e5 := ix_fwd os 0
      simp [z32] at e3 e5
      simp [shlS, eM, eW, hl0, z32, e3, e4, e5]
      exact ⟨6, 15, _, rfl, rfl, .inl ⟨rfl, by rw [← hos]; simp [dg]⟩⟩
  | succ k =>
    obtain ⟨x, hx⟩ : ∃ x, x = (mag a).getD os.length 0 := ⟨_, rfl⟩
    have hxB : x < 4294967296 := by rw [hx]; exact getD_lt (mag_digs a) _
    have hi : os.length < (mag a).length := by omega
    have e1 := ix_dg _ _ hi
    rw [← hx] at e1
    have q0 : IntKind.u64.wrap (x : Int) = x := by rw [wrap_u64]; omega
    have q1 : min s 64 = s := by omega
    obtain ⟨y, hy⟩ : ∃ y, y = x * 2 ^ s := ⟨_, rfl⟩
    have hyB : y ≤ 4294967295 * 2 ^ 31 := by rw [hy]; exact Nat.mul_le_mul (by omega) h2s
    have q2 : IntKind.u64.wrap ((x : Int) * 2 ^ s) = y := by
      have : (x : Int) * 2 ^ s = y := by rw [hy]; simp
      rw [this, wrap_u64]; omega
    obtain ⟨h, hh⟩ : ∃ h, h = c + y := ⟨_, rfl⟩
    have q3 : bOr .u64 (y : Int) c = h := by
      rw [bOr64 y c (by omega) (by omega), Nat.or_comm, hy, or_low c x s hc, hh, hy]
    obtain ⟨c', d, hd, hcut, w1, w2⟩ := cut32 (h : Int) h rfl
    have q4 : IntKind.i64.wrap ((os.length : Int) + 1) = os.length + 1 := by rw [wrap_i64]; omega
    have e0 := lset_fwd os (k + m)
    have e9 := ix_fwd os (k + m)
    have e8 : k + 1 + m = k + m + 1 := by omega
    simp [shlS, eM, eW, e1, dg, q0, q1, q2, q3, q4, hi, w1, w2, e8, e0, e9]
    have hmx := maxLen_ge
    refine ⟨by omega, hN _ (nx (m := k) (s'' := shlS a s m (os ++ [d]) c' k) (snd_of (by simp [LeT, shlS, eM, eW]) (by simp [shlS, dg])) ⟨_, _, hod.append (Digs.nil.cons hd), ?_, ?_, ?_, rfl⟩ (by omega))⟩
    · simp only [List.length_append, List.length_singleton]; omega
    · have h1 : h < 2 ^ s * 4294967296 := by
        have h3 : (x + 1) * 2 ^ s ≤ 4294967296 * 2 ^ s := Nat.mul_le_mul_right _ hxB
        rw [Nat.add_mul, ← hy] at h3
        omega
      have h2 : B * c' < B * 2 ^ s := by simp only [B] at *; omega
      exact Nat.lt_of_mul_lt_mul_left h2
    · rw [val_snoc, List.length_append, List.length_singleton, Nat.pow_succ, Nat.mul_assoc, Nat.add_assoc, ← Nat.mul_add, hcut, hh, hy, val_take_getD, ← hx]
      have h3 : B ^ os.length * (x * 2 ^ s) = 2 ^ s * (B ^ os.length * x) := by
        simp only [Nat.mul_assoc, Nat.mul_comm, Nat.mul_left_comm]
      rw [Nat.mul_add, Nat.mul_add, h3]
      omega
theorem l1Shl_ok : callable Tryz.prog 75 = true := by kernel_rfl
end Go.Proofs.YtdkgkcnllhcamaaGreat.Ae

/-! spec.l1MagDiv: the two inner loops that take and give back. No condition. -/
namespace Go.Proofs.YtdkgkcnllhcamaaGreat.Ae
open Go Go.RowKit Go.Proofs.YtdkgkcnllhcamaaGreat.Dig
variable {N : NR}

/-- A difference's digit and what is borrowed, in one word, the borrow taken last. -/
theorem bor64b (x y c : Nat) (hx : x < 4294967296) (hy : y < 4294967296) (hc : c ≤ 1) : ∃ (t1 t2 : Int) (c' d : Nat), d < B ∧ c' ≤ 1 ∧ d + y + c = x + B * c' ∧ IntKind.u64.wrap ((x : Int) - y) = t1 ∧ IntKind.u64.wrap (t1 - c) = t2 ∧ IntKind.u32.wrap t2 = d ∧ t2 / 9223372036854775808 = c' := by
  obtain ⟨t1, h1⟩ : ∃ t1 : Int, t1 = ((x : Int) - y) % 18446744073709551616 := ⟨_, rfl⟩
  obtain ⟨t2, h2⟩ : ∃ t2 : Int, t2 = (t1 - c) % 18446744073709551616 := ⟨_, rfl⟩
  have e1 : IntKind.u64.wrap ((x : Int) - y) = t1 := by rw [wrap_u64, h1]
  have e2 : IntKind.u64.wrap (t1 - c) = t2 := by rw [wrap_u64, h2]
  have h3 : t2 = ((x : Int) - c - y) % 18446744073709551616 := by omega
  rcases Nat.lt_or_ge x (y + c) with h | h
  · refine ⟨t1, t2, 1, x + 4294967296 - y - c, by simp only [B]; omega, by omega, by simp only [B]; omega, e1, e2, ?_, ?_⟩
    · rw [wrap_u32]; omega
    · omega
  · refine ⟨t1, t2, 0, x - y - c, by simp only [B]; omega, by omega, by simp only [B]; omega, e1, e2, ?_, ?_⟩
    · rw [wrap_u32]; omega
    · omega
theorem and_low (p : Nat) (hp : p < 18446744073709551616) : bAnd .u64 (p : Int) 4294967295 = ((p % 4294967296 : Nat) : Int) := by
  have := bAnd64 p 4294967295 hp (by omega)
  have h2 : p &&& 4294967295 = p % 4294967296 := Nat.and_two_pow_sub_one_eq_mod p 32
  rw [h2] at this
  exact this
theorem drop_cons {us : List Nat} {i : Nat} (h : i < us.length) : us.drop i = us.getD i 0 :: us.drop (i + 1) := by
  rw [List.drop_eq_getElem_cons h, List.getD_eq_getElem?_getD, List.getElem?_eq_getElem h]; rfl

/-! Parts of code. -/
def inC : Code → Code
  | .cond _ a _ => a
  | c => c
noncomputable def sdB : Code := Tryz.f37.body.getD .skip
noncomputable def sdM : Code := inL (inB (sq2 (sq1 (sq2 (sq2 (sq2 (sq2 (sq2 (sq2 (sq2 (sq2 (sq2 sdB))))))))))))
noncomputable def sdX : Code := inB (sq1 (sq2 sdM))
noncomputable def sdL6 : Code := inL (inB (sq2 (sq1 (sq2 (sq2 (sq2 (sq2 (sq2 (sq2 sdX)))))))))
noncomputable def sdL8 : Code := inL (inB (sq2 (sq1 (sq2 (sq2 (inC (sq2 (sq1 (sq2 (sq2 (sq2 (sq2 (sq2 (sq2 (sq2 (sq2 (sq2 sdX)))))))))))))))))

def sDivMf : FuncId → Bool := fun f => f == 76 || f == 75
noncomputable def sDivTb : List (FuncId × Ct) := [(76, .data trimC), (43, .data sCmpC), (74, .data div1C), (75, .own 1 72 shlO)]
theorem sDivTb_ok : TbOK N Tryz.prog (tbl sDivTb) := tbl_cons (c := .data trimC) l1Trim_spec l1Trim_ok (tbl_cons (c := .data sCmpC) l1MagCmp_spec l1MagCmp_ok (tbl_cons (c := .data div1C) l1MagDiv1_spec l1MagDiv1_ok (tbl_cons (c := .own 1 72 shlO) l1Shl_specO l1Shl_ok tbl_nil)))

theorem sdt1 : tbl sDivTb 76 = some (.data trimC) := rfl
theorem sdt2 : tbl sDivTb 43 = some (.data sCmpC) := rfl
theorem sdt3 : tbl sDivTb 74 = some (.data div1C) := rfl
theorem sdt4 : tbl sDivTb 75 = some (.own 1 72 shlO) := rfl
attribute [simp] sdt1 sdt2 sdt3 sdt4 sDivMf

def sDv6 (s n : Nat) (vs us qs : List Nat) (k g c b i : Nat) : St := ⟨[.any, .any, .any, .any, .any, .any, .dat (.lit (.int .u64 s)), .dat (.lit (.int .i64 n)), .row 60, .row 63, .row 69, .dat (.lit (.int .i64 k)), .any, .dat (.lit (.int .u64 g)), .any, .any, .dat (.lit (.int .u64 c)), .dat (.lit (.int .u64 b)), .dat (.lit (.int .i64 i)), .any, .any, .any, .any, .any, .any, .any, .any, .any, .any, .any, .any, .any, .any, .any, .any, .any, .any, .any, .any, .any, .any, .any, .any, .any, .any, .any, .any, .any, .any, .any, .any, .any, .any, .any, .any, .any, .any, .any, .any, .any, .any, .any, .any, .any, .any, .any, .any, .any, .any, .any, .any, .any, .any, .any, .any, .any, .any, .any, .any, .any, .any, .any, .any, .any, .any, .any, .any, .any, .any, .any, .any, .any, .any, .any, .any, .any, .any, .any, .any, .any, .any, .any, .any, .any, .any, .any, .any, .any, .any, .any, .any, .any, .any, .any, .any, .any, .any, .any, .any, .any, .any, .any, .any, .any, .any, .any, .any, .any, .any, .any, .any, .any, .any, .any, .any, .any, .any, .any, .any, .any, .any, .any, .any, .any, .any, .any, .any, .any, .any, .any, .any, .any, .any, .any, .any, .any, .any, .any, .any, .any, .any, .any, .any, .any, .any, .any, .any, .any, .any, .any, .any, .any, .any, .any, .any, .any, .any, .any, .any, .any, .any, .any, .any, .any, .any, .any, .any, .any, .any, .any, .any, .any, .any, .any, .any, .any, .any, .any, .any, .any, .any, .any, .any, .any, .any, .any, .any, .any, .any, .any, .any, .any, .any, .any, .any, .any, .any, .any, .any, .any, .any, .any, .any, .any, .any, .any, .any, .any, .any, .any, .any, .any, .any, .any, .any, .any, .any, .any, .any, .any, .any, .any, .any, .any, .any, .any, .any, .any, .any, .any, .any, .any, .any, .any, .any, .any, .any, .any, .any, .any, .any, .any, .any, .any, .any, .any, .any, .any, .any, .any, .any, .any, .any, .any, .any, .any, .any, .any, .any, .any, .any, .any, .any, .any, .any, .any, .any, .any, .any, .any, .any, .any, .any, .any, .any, .any, .any, .any, .any, .any, .any], [none, none, none, none, none, none, none, none, none, none, none, none, none, none, none, none, none, none, none, none, none, none, none, none, none, none, none, none, none, none, none, none, none, none, none, none, none, none, none, none, none, none, none, none, none, none, none, none, none, none, none, none, none, none, none, none, none, none, none, none, some (.row 1 72 (vs.map dg)), none, none, some (.row 1 72 (us.map dg)), none, none, none, none, none, some (.row 1 72 (List.replicate (k + 1) z32 ++ qs.map dg)), none, none, none, none, none, none, none, none, none, none, none, none, none, none, none, none, none, none, none, none, none, none, none, none, none, none, none, none, none, none, none, none, none, none, none, none, none, none, none, none, none, none, none, none, none, none, none, none, none, none, none, none, none, none, none, none, none, none, none, none, none, none, none, none, none, none, none, none, none, none, none, none, none, none, none, none, none, none, none, none, none, none, none, none, none, none, none, none, none, none, none, none, none, none, none, none, none, none, none, none, none, none, none, none, none, none, none, none, none, none, none, none, none, none, none, none, none, none, none, none, none, none, none, none, none, none, none, none, none, none, none, none, none, none, none, none, none, none, none, none, none, none, none, none, none, none, none, none, none, none, none, none, none, none, none, none, none, none, none, none, none, none, none, none, none, none, none, none, none, none, none, none, none, none, none, none, none, none, none, none, none, none, none, none, none, none, none, none, none, none, none, none, none, none, none, none, none, none, none, none, none, none, none, none, none, none, none, none, none, none, none, none, none, none, none, none, none, none, none, none, none, none, none, none, none, none, none, none, none, none, none]⟩
def sDe6 (s n : Nat) (vs us qs : List Nat) (k g c b : Nat) : St := ⟨[.any, .any, .any, .any, .any, .any, .dat (.lit (.int .u64 s)), .dat (.lit (.int .i64 n)), .row 60, .row 63, .row 69, .dat (.lit (.int .i64 k)), .any, .dat (.lit (.int .u64 g)), .any, .any, .dat (.lit (.int .u64 c)), .dat (.lit (.int .u64 b)), .dat (.lit (.int .i64 n)), .any, .any, .any, .any, .any, .any, .any, .any, .any, .any, .any, .any, .any, .any, .any, .any, .any, .any, .any, .any, .any, .any, .any, .any, .any, .any, .any, .any, .any, .any, .any, .any, .any, .any, .any, .any, .any, .any, .any, .any, .any, .any, .any, .any, .any, .any, .any, .any, .any, .any, .any, .any, .any, .any, .any, .any, .any, .any, .any, .any, .any, .any, .any, .any, .any, .any, .any, .any, .any, .any, .any, .any, .any, .any, .any, .any, .any, .any, .any, .any, .any, .any, .any, .any, .any, .any, .any, .any, .any, .any, .any, .any, .any, .any, .any, .any, .any, .any, .any, .any, .any, .any, .any, .any, .any, .any, .any, .any, .any, .any, .any, .any, .any, .any, .any, .any, .any, .any, .any, .any, .any, .any, .any, .any, .any, .any, .any, .any, .any, .any, .any, .any, .any, .any, .any, .any, .dat (.lit (.int .i64 n)), .dat (.lit (.int .i64 n)), .dat (.lit (.bool false)), .any, .any, .any, .any, .any, .any, .any, .any, .any, .any, .any, .any, .any, .any, .any, .any, .any, .any, .any, .any, .any, .any, .any, .any, .any, .any, .any, .any, .any, .any, .any, .any, .any, .any, .any, .any, .any, .any, .any, .any, .any, .any, .any, .any, .any, .any, .any, .any, .any, .any, .any, .any, .any, .any, .any, .any, .any, .any, .any, .any, .any, .any, .any, .any, .any, .any, .any, .any, .any, .any, .any, .any, .any, .any, .any, .any, .any, .any, .any, .any, .any, .any, .any, .any, .any, .any, .any, .any, .any, .any, .any, .any, .any, .any, .any, .any, .any, .any, .any, .any, .any, .any, .any, .any, .any, .any, .any, .any, .any, .any, .any, .any, .any, .any, .any, .any, .any, .any, .any, .any, .any, .any, .any, .any, .any, .any, .any, .any, .any, .any, .any, .any, .any, .any, .any, .any, .any, .any, .any, .any, .any, .any, .any], [none, none, none, none, none, none, none, none, none, none, none, none, none, none, none, none, none, none, none, none, none, none, none, none, none, none, none, none, none, none, none, none, none, none, none, none, none, none, none, none, none, none, none, none, none, none, none, none, none, none, none, none, none, none, none, none, none, none, none, none, some (.row 1 72 (vs.map dg)), none, none, some (.row 1 72 (us.map dg)), none, none, none, none, none, some (.row 1 72 (List.replicate (k + 1) z32 ++ qs.map dg)), none, none, none, none, none, none, none, none, none, none, none, none, none, none, none, none, none, none, none, none, none, none, none, none, none, none, none, none, none, none, none, none, none, none, none, none, none, none, none, none, none, none, none, none, none, none, none, none, none, none, none, none, none, none, none, none, none, none, none, none, none, none, none, none, none, none, none, none, none, none, none, none, none, none, none, none, none, none, none, none, none, none, none, none, none, none, none, none, none, none, none, none, none, none, none, none, none, none, none, none, none, none, none, none, none, none, none, none, none, none, none, none, none, none, none, none, none, none, none, none, none, none, none, none, none, none, none, none, none, none, none, none, none, none, none, none, none, none, none, none, none, none, none, none, none, none, none, none, none, none, none, none, none, none, none, none, none, none, none, none, none, none, none, none, none, none, none, none, none, none, none, none, none, none, none, none, none, none, none, none, none, none, none, none, none, none, none, none, none, none, none, none, none, none, none, none, none, none, none, none, none, none, none, none, none, none, none, none, none, none, none, none, none, none, none, none, none, none, none, none, none, none, none, none, none, none, none, none, none, none, none]⟩
def sDv8 (s n : Nat) (vs us qs : List Nat) (k g c i : Nat) : St := ⟨[.any, .any, .any, .any, .any, .any, .dat (.lit (.int .u64 s)), .dat (.lit (.int .i64 n)), .row 60, .row 63, .row 69, .dat (.lit (.int .i64 k)), .any, .dat (.lit (.int .u64 g)), .any, .any, .any, .any, .any, .any, .any, .any, .dat (.lit (.int .u64 c)), .dat (.lit (.int .i64 i)), .any, .any, .any, .any, .any, .any, .any, .any, .any, .any, .any, .any, .any, .any, .any, .any, .any, .any, .any, .any, .any, .any, .any, .any, .any, .any, .any, .any, .any, .any, .any, .any, .any, .any, .any, .any, .any, .any, .any, .any, .any, .any, .any, .any, .any, .any, .any, .any, .any, .any, .any, .any, .any, .any, .any, .any, .any, .any, .any, .any, .any, .any, .any, .any, .any, .any, .any, .any, .any, .any, .any, .any, .any, .any, .any, .any, .any, .any, .any, .any, .any, .any, .any, .any, .any, .any, .any, .any, .any, .any, .any, .any, .any, .any, .any, .any, .any, .any, .any, .any, .any, .any, .any, .any, .any, .any, .any, .any, .any, .any, .any, .any, .any, .any, .any, .any, .any, .any, .any, .any, .any, .any, .any, .any, .any, .any, .any, .any, .any, .any, .any, .any, .any, .any, .any, .any, .any, .any, .any, .any, .any, .any, .any, .any, .any, .any, .any, .any, .any, .any, .any, .any, .any, .any, .any, .any, .any, .any, .any, .any, .any, .any, .any, .any, .any, .any, .any, .any, .any, .any, .any, .any, .any, .any, .any, .any, .any, .any, .any, .any, .any, .any, .any, .any, .any, .any, .any, .any, .any, .any, .any, .any, .any, .any, .any, .any, .any, .any, .any, .any, .any, .any, .any, .any, .any, .any, .any, .any, .any, .any, .any, .any, .any, .any, .any, .any, .any, .any, .any, .any, .any, .any, .any, .any, .any, .any, .any, .any, .any, .any, .any, .any, .any, .any, .any, .any, .any, .any, .any, .any, .any, .any, .any, .any, .any, .any, .any, .any, .any, .any, .any, .any, .any, .any, .any, .any, .any, .any, .any, .any, .any, .any, .any, .any, .any, .any, .any, .any, .any, .any, .any, .any, .any, .any, .any, .any, .any], [none, none, none, none, none, none, none, none, none, none, none, none, none, none, none, none, none, none, none, none, none, none, none, none, none, none, none, none, none, none, none, none, none, none, none, none, none, none, none, none, none, none, none, none, none, none, none, none, none, none, none, none, none, none, none, none, none, none, none, none, some (.row 1 72 (vs.map dg)), none, none, some (.row 1 72 (us.map dg)), none, none, none, none, none, some (.row 1 72 (List.replicate (k + 1) z32 ++ qs.map dg)), none, none, none, none, none, none, none, none, none, none, none, none, none, none, none, none, none, none, none, none, none, none, none, none, none, none, none, none, none, none, none, none, none, none, none, none, none, none, none, none, none, none, none, none, none, none, none, none, none, none, none, none, none, none, none, none, none, none, none, none, none, none, none, none, none, none, none, none, none, none, none, none, none, none, none, none, none, none, none, none, none, none, none, none, none, none, none, none, none, none, none, none, none, none, none, none, none, none, none, none, none, none, none, none, none, none, none, none, none, none, none, none, none, none, none, none, none, none, none, none, none, none, none, none, none, none, none, none, none, none, none, none, none, none, none, none, none, none, none, none, none, none, none, none, none, none, none, none, none, none, none, none, none, none, none, none, none, none, none, none, none, none, none, none, none, none, none, none, none, none, none, none, none, none, none, none, none, none, none, none, none, none, none, none, none, none, none, none, none, none, none, none, none, none, none, none, none, none, none, none, none, none, none, none, none, none, none, none, none, none, none, none, none, none, none, none, none, none, none, none, none, none, none, none, none, none, none, none, none, none, none]⟩

def sDe8 (s n : Nat) (vs us qs : List Nat) (k g c : Nat) : St := ⟨[.any, .any, .any, .any, .any, .any, .dat (.lit (.int .u64 s)), .dat (.lit (.int .i64 n)), .row 60, .row 63, .row 69, .dat (.lit (.int .i64 k)), .any, .dat (.lit (.int .u64 g)), .any, .any, .any, .any, .any, .any, .any, .any, .dat (.lit (.int .u64 c)), .dat (.lit (.int .i64 n)), .any, .any, .any, .any, .any, .any, .any, .any, .any, .any, .any, .any, .any, .any, .any, .any, .any, .any, .any, .any, .any, .any, .any, .any, .any, .any, .any, .any, .any, .any, .any, .any, .any, .any, .any, .any, .any, .any, .any, .any, .any, .any, .any, .any, .any, .any, .any, .any, .any, .any, .any, .any, .any, .any, .any, .any, .any, .any, .any, .any, .any, .any, .any, .any, .any, .any, .any, .any, .any, .any, .any, .any, .any, .any, .any, .any, .any, .any, .any, .any, .any, .any, .any, .any, .any, .any, .any, .any, .any, .any, .any, .any, .any, .any, .any, .any, .any, .any, .any, .any, .any, .any, .any, .any, .any, .any, .any, .any, .any, .any, .any, .any, .any, .any, .any, .any, .any, .any, .any, .any, .any, .any, .any, .any, .any, .any, .any, .any, .any, .any, .any, .any, .any, .any, .any, .any, .any, .any, .any, .any, .any, .any, .any, .any, .any, .any, .any, .any, .any, .any, .any, .any, .any, .any, .any, .any, .any, .any, .any, .any, .any, .any, .any, .any, .any, .any, .any, .any, .any, .any, .any, .any, .any, .any, .any, .any, .any, .any, .any, .any, .any, .any, .any, .any, .any, .any, .any, .any, .any, .any, .any, .dat (.lit (.int .i64 n)), .dat (.lit (.int .i64 n)), .dat (.lit (.bool false)), .any, .any, .any, .any, .any, .any, .any, .any, .any, .any, .any, .any, .any, .any, .any, .any, .any, .any, .any, .any, .any, .any, .any, .any, .any, .any, .any, .any, .any, .any, .any, .any, .any, .any, .any, .any, .any, .any, .any, .any, .any, .any, .any, .any, .any, .any, .any, .any, .any, .any, .any, .any, .any, .any, .any, .any, .any, .any, .any, .any, .any, .any, .any, .any, .any, .any, .any, .any, .any, .any, .any, .any, .any, .any, .any, .any, .any, .any, .any, .any, .any, .any, .any], [none, none, none, none, none, none, none, none, none, none, none, none, none, none, none, none, none, none, none, none, none, none, none, none, none, none, none, none, none, none, none, none, none, none, none, none, none, none, none, none, none, none, none, none, none, none, none, none, none, none, none, none, none, none, none, none, none, none, none, none, some (.row 1 72 (vs.map dg)), none, none, some (.row 1 72 (us.map dg)), none, none, none, none, none, some (.row 1 72 (List.replicate (k + 1) z32 ++ qs.map dg)), none, none, none, none, none, none, none, none, none, none, none, none, none, none, none, none, none, none, none, none, none, none, none, none, none, none, none, none, none, none, none, none, none, none, none, none, none, none, none, none, none, none, none, none, none, none, none, none, none, none, none, none, none, none, none, none, none, none, none, none, none, none, none, none, none, none, none, none, none, none, none, none, none, none, none, none, none, none, none, none, none, none, none, none, none, none, none, none, none, none, none, none, none, none, none, none, none, none, none, none, none, none, none, none, none, none, none, none, none, none, none, none, none, none, none, none, none, none, none, none, none, none, none, none, none, none, none, none, none, none, none, none, none, none, none, none, none, none, none, none, none, none, none, none, none, none, none, none, none, none, none, none, none, none, none, none, none, none, none, none, none, none, none, none, none, none, none, none, none, none, none, none, none, none, none, none, none, none, none, none, none, none, none, none, none, none, none, none, none, none, none, none, none, none, none, none, none, none, none, none, none, none, none, none, none, none, none, none, none, none, none, none, none, none, none, none, none, none, none, none, none, none, none, none, none, none, none, none, none, none, none]⟩

set_option maxRecDepth 100000 in
set_option maxHeartbeats 4000000 in
theorem sSub6 {s n : Nat} {vs us qs : List Nat} {k g : Nat} (hvs : Digs vs) (hus : Digs us) (hvl : vs.length = n) (hkn : k + n < us.length) (hul : us.length < 2 ^ 41) (hg : g < 4294967296) (st : St) (h0 : Snd st (sDv6 s n vs us qs k g 0 0 0)) (K : Exit → St → Prop)
    (hK : ∀ os c b, Digs os → os.length = n → c < 4294967296 → b ≤ 1 → val os + g * val vs = val (part us k n) + B ^ n * (b + c) → ∀ Z, Z = us.take k ++ os ++ us.drop (k + n) → K .normal (sDe6 s n vs Z qs k g c b)) :
    awp Tryz.prog sDivMf (tbl sDivTb) (.loop sdL6) st (Kblk 6 K) := by
  simp only [sdL6, sdX, sdM, sdB, Tryz.f37, Option.getD, sq1, sq2, inB, inL]
  refine loop_go (fun m st => ∃ (os : List Nat) (c b : Nat), Digs os ∧ c < 4294967296 ∧ b ≤ 1 ∧ os.length + m = n ∧ val os + g * val (vs.take os.length) = val (part us k os.length) + B ^ os.length * (b + c) ∧
      st = sDv6 s n vs (us.take k ++ os ++ us.drop (k + os.length)) qs k g c b os.length) (n := n) h0 ⟨[], 0, 0, Digs.nil, by omega, by omega, by simp, by simp [val, part], by simp⟩ ?_
  rintro m st ⟨os, c, b, hos, hc, hb, hl, hv, rfl⟩ KN hN
  cases m with
  | zero =>
    have hln : os.length = n := by omega
    rw [hln, ← hvl, List.take_length, hvl] at hv
    have hfin := hK os c b hos hln hc hb hv _ rfl
    rw [hln]
    generalize us.take k ++ os ++ us.drop (k + n) = Z at hfin ⊢
    simp only [sDe6] at hfin
    simp [sDv6]
    exact hfin
  | succ m =>
    obtain ⟨x, hxx⟩ : ∃ x, x = us.getD (k + os.length) 0 := ⟨_, rfl⟩
    obtain ⟨v, hvv⟩ : ∃ v, v = vs.getD os.length 0 := ⟨_, rfl⟩
    have hxB : x < 4294967296 := by rw [hxx]; exact getD_lt hus _
    have hvB : v < 4294967296 := by rw [hvv]; exact getD_lt hvs _
    have hvl2 : os.length < vs.length := by omega
    have hR : us.drop (k + os.length) = x :: us.drop (k + os.length + 1) := by rw [hxx]; exact drop_cons (by omega)
    have hL : (us.take k ++ os).length = k + os.length := by simp; omega
    generalize hLL : us.take k ++ os = L at *
    rw [hR]
    have e1 := ix_at L (us.drop (k + os.length + 1)) x
    have hgv : g * v ≤ 4294967295 * 4294967295 := Nat.mul_le_mul (by omega) (by omega)
    obtain ⟨p, hp⟩ : ∃ p, p = g * v + c := ⟨_, rfl⟩
    have hpB : p < 18446744073709551616 := by omega
    obtain ⟨c', lp, hlp, hcut, w1, w2⟩ := cut32 (p : Int) p rfl
    have hlp2 : lp = p % 4294967296 := by simp only [B] at *; omega
    have w3 := and_low p hpB
    rw [← hlp2] at w3
    have hlpB : lp < 4294967296 := hlp
    obtain ⟨t1, t2, b', d, hdB, hb', hsub, q5, q6, q7, q8⟩ := bor64b x lp b hxB hlpB hb
    have e2 := lset_at L (us.drop (k + os.length + 1)) x d
    have q1 : IntKind.u64.wrap (v : Int) = v := by rw [wrap_u64]; omega
    have q2 : IntKind.u64.wrap (x : Int) = x := by rw [wrap_u64]; omega
    obtain ⟨gv, hgv'⟩ : ∃ gv, gv = g * v := ⟨_, rfl⟩
    have q3 : (g : Int) * v = gv := by rw [hgv']; exact (Int.natCast_mul _ _).symm
    have q4 : IntKind.u64.wrap (gv : Int) = gv := by rw [wrap_u64]; omega
    have q9 : IntKind.u64.wrap ((gv : Int) + c) = p := by rw [wrap_u64]; omega
    have q10 : IntKind.i64.wrap ((os.length : Int) + 1) = os.length + 1 := by rw [wrap_i64]; omega
    have q11 : IntKind.i64.wrap ((os.length : Int) + k) = L.length := by rw [wrap_i64]; omega
    have q12 : (os.length : Int) < n := by omega
    have e3 := ix_dg vs _ hvl2
    rw [← hvv] at e3
    have hnext : ∀ s', Snd s' (sDv6 s n vs (L ++ d :: us.drop (k + os.length + 1)) qs k g c' b' (os.length + 1)) → KN s' := by
      intro s' hs
      refine hN _ (nx (m := m) hs ⟨os ++ [d], c', b', hos.append (Digs.nil.cons hdB), ?_, hb', ?_, ?_, ?_⟩ (by omega))
      · simp only [B] at hcut; omega
      · simp only [List.length_append, List.length_singleton]; omega
      · rw [val_snoc, List.length_append, List.length_singleton, val_take_getD, ← hvv, part_snoc us k _ (by omega), val_snoc, part_len us k _ (by omega), ← hxx, Nat.pow_succ]
        have h1 := congrArg (B ^ os.length * ·) hsub
        have h2 := congrArg (B ^ os.length * ·) (hcut.trans hp)
        simp only [Nat.mul_add] at h1 h2 hv ⊢
        have h3 : g * (B ^ os.length * v) = B ^ os.length * (g * v) := by simp only [Nat.mul_left_comm]
        have h4 : B ^ os.length * B * b' = B ^ os.length * (B * b') := Nat.mul_assoc _ _ _
        have h5 : B ^ os.length * B * c' = B ^ os.length * (B * c') := Nat.mul_assoc _ _ _
        rw [h3, h4, h5]
        omega
      · rw [← hLL, List.length_append, List.length_singleton, ← Nat.add_assoc]
        simp only [List.append_assoc, List.singleton_append]
    have hZl : (L ++ x :: us.drop (k + os.length + 1)).length = us.length := by
      rw [List.length_append, List.length_cons, List.length_drop, hL]; omega
    have hZl2 : (L ++ d :: us.drop (k + os.length + 1)).length = us.length := by
      rw [List.length_append, List.length_cons, List.length_drop, hL]; omega
    generalize hZ : L ++ x :: us.drop (k + os.length + 1) = Z at *
    generalize hZ' : L ++ d :: us.drop (k + os.length + 1) = Z' at *
    have q13 : L.length < Z.length := by omega
    generalize L.length = ll at *
    simp [sDv6, dg, hvl2, e3, e1, e2, q1, q2, q3, q4, q5, q6, q7, q8, q9, q10, q11, q12, q13, w1, w2, w3]
    exact hnext _ (snd_of (by simp [LeT, sDv6]) (by simp [sDv6]))

set_option maxRecDepth 100000 in
set_option maxHeartbeats 4000000 in
theorem sAdd8 {s n : Nat} {vs us qs : List Nat} {k g : Nat} (hvs : Digs vs) (hus : Digs us) (hvl : vs.length = n) (hkn : k + n < us.length) (hul : us.length < 2 ^ 41) (st : St) (h0 : Snd st (sDv8 s n vs us qs k g 0 0)) (K : Exit → St → Prop)
    (hK : ∀ os c, Digs os → os.length = n → c ≤ 1 → val os + B ^ n * c = val (part us k n) + val vs → ∀ Z, Z = us.take k ++ os ++ us.drop (k + n) → K .normal (sDe8 s n vs Z qs k g c)) :
    awp Tryz.prog sDivMf (tbl sDivTb) (.loop sdL8) st (Kblk 8 K) := by
  simp only [sdL8, sdX, sdM, sdB, Tryz.f37, Option.getD, sq1, sq2, inB, inL, inC]
  refine loop_go (fun m st => ∃ (os : List Nat) (c : Nat), Digs os ∧ c ≤ 1 ∧ os.length + m = n ∧ val os + B ^ os.length * c = val (part us k os.length) + val (vs.take os.length) ∧
      st = sDv8 s n vs (us.take k ++ os ++ us.drop (k + os.length)) qs k g c os.length) (n := n) h0 ⟨[], 0, Digs.nil, by omega, by simp, by simp [val, part], by simp⟩ ?_
  rintro m st ⟨os, c, hos, hc, hl, hv, rfl⟩ KN hN
  cases m with
  | zero =>
    have hln : os.length = n := by omega
    rw [hln, ← hvl, List.take_length, hvl] at hv
    have hfin := hK os c hos hln hc hv _ rfl
    rw [hln]
    generalize us.take k ++ os ++ us.drop (k + n) = Z at hfin ⊢
    simp only [sDe8] at hfin
    simp [sDv8]
    exact hfin
  | succ m =>
    obtain ⟨x, hxx⟩ : ∃ x, x = us.getD (k + os.length) 0 := ⟨_, rfl⟩
    obtain ⟨v, hvv⟩ : ∃ v, v = vs.getD os.length 0 := ⟨_, rfl⟩
    have hxB : x < 4294967296 := by rw [hxx]; exact getD_lt hus _
    have hvB : v < 4294967296 := by rw [hvv]; exact getD_lt hvs _
    have hvl2 : os.length < vs.length := by omega
    have hR : us.drop (k + os.length) = x :: us.drop (k + os.length + 1) := by rw [hxx]; exact drop_cons (by omega)
    have hL : (us.take k ++ os).length = k + os.length := by simp; omega
    generalize hLL : us.take k ++ os = L at *
    rw [hR]
    have e1 := ix_at L (us.drop (k + os.length + 1)) x
    obtain ⟨c', d, hdB, hcut, w1, w2⟩ := cut32 ((x : Int) + v + c) (x + v + c) (by omega)
    have e2 := lset_at L (us.drop (k + os.length + 1)) x d
    have q1 : IntKind.u64.wrap (v : Int) = v := by rw [wrap_u64]; omega
    have q2 : IntKind.u64.wrap (x : Int) = x := by rw [wrap_u64]; omega
    have q4 : IntKind.u64.wrap ((x : Int) + v) = x + v := by rw [wrap_u64]; omega
    have q9 : IntKind.u64.wrap ((x : Int) + v + c) = x + v + c := by rw [wrap_u64]; omega
    have q10 : IntKind.i64.wrap ((os.length : Int) + 1) = os.length + 1 := by rw [wrap_i64]; omega
    have q11 : IntKind.i64.wrap ((os.length : Int) + k) = L.length := by rw [wrap_i64]; omega
    have q12 : (os.length : Int) < n := by omega
    have e3 := ix_dg vs _ hvl2
    rw [← hvv] at e3
    have hnext : ∀ s', Snd s' (sDv8 s n vs (L ++ d :: us.drop (k + os.length + 1)) qs k g c' (os.length + 1)) → KN s' := by
      intro s' hs
      refine hN _ (nx (m := m) hs ⟨os ++ [d], c', hos.append (Digs.nil.cons hdB), ?_, ?_, ?_, ?_⟩ (by omega))
      · simp only [B] at hcut; omega
      · simp only [List.length_append, List.length_singleton]; omega
      · rw [val_snoc, List.length_append, List.length_singleton, val_take_getD, ← hvv, part_snoc us k _ (by omega), val_snoc, part_len us k _ (by omega), ← hxx, Nat.pow_succ]
        have h1 := congrArg (B ^ os.length * ·) hcut
        simp only [Nat.mul_add] at h1
        have h5 : B ^ os.length * B * c' = B ^ os.length * (B * c') := Nat.mul_assoc _ _ _
        rw [h5]
        omega
      · rw [← hLL, List.length_append, List.length_singleton, ← Nat.add_assoc]
        simp only [List.append_assoc, List.singleton_append]
    have hZl : (L ++ x :: us.drop (k + os.length + 1)).length = us.length := by
      rw [List.length_append, List.length_cons, List.length_drop, hL]; omega
    have hZl2 : (L ++ d :: us.drop (k + os.length + 1)).length = us.length := by
      rw [List.length_append, List.length_cons, List.length_drop, hL]; omega
    generalize hZ : L ++ x :: us.drop (k + os.length + 1) = Z at *
    generalize hZ' : L ++ d :: us.drop (k + os.length + 1) = Z' at *
    have q13 : L.length < Z.length := by omega
    generalize L.length = ll at *
    simp [sDv8, dg, hvl2, e3, e1, e2, q1, q2, q4, q9, q10, q11, q12, q13, w1, w2]
    exact hnext _ (snd_of (by simp [LeT, sDv8]) (by simp [sDv8]))
end Go.Proofs.YtdkgkcnllhcamaaGreat.Ae
