/- Helper: an evaluator of the model's code over plain values, proved sound for every program (part of the proof of PackCodesUptoSaid). No condition. -/
import Derived.Test.YtljalgiimnbheaaGreatA1
import Derived.Laws.CopyRow
import Derived.Laws.OwnMore
import Derived.Great.BuildSlice
import Derived.Maps.AppendAt
import Derived.Lib.AppendStr
set_option linter.all false
section
set_option linter.unusedSectionVars false
namespace Go.AM
open RowKit

section
variable {P : Program} {IoS : Nat → Prop} {w0 : World} {X0 : Un} {γ : Id → Value} {S : St} {a : Act} {w : World} {E : Env} {o : Oper} {x : AV} {σ' : Store}

theorem slB_ok (hr : Rel P IoS w0 X0 γ S a w) {lo hi : Option Operand} {n cap l h : Nat} {isS : Bool} {σ σ' : Store} (hb : (slB S.f lo hi n).ex σ = some ((l, h), σ')) (hc : n ≤ cap) :
    σ = σ' ∧ l ≤ h ∧ h ≤ n ∧ (Instr.sliceBounds isS n cap (lo.map a.eval) (hi.map a.eval) none).run P w = .ok (l, h, cap) w := by
  cases lo with
  | none =>
    cases hi with
    | none => exact bounds_ok (lo := none) (hi := none) hb hc
    | some y =>
      obtain ⟨j, hj, hb⟩ := opt_ex (show (Pr.opt ((opd S.f y).as (.int .i64)) fun b => slBound none (some b) n).ex σ = _ from hb)
      have e := RV.int_inv (as_VR hj (hr.opd y))
      have := bounds_ok (P := P) (w := w) (isS := isS) (lo := none) (hi := some j) hb hc
      simpa [e] using this
  | some z =>
    cases hi with
    | none =>
      obtain ⟨i, hi, hb⟩ := opt_ex (show (Pr.opt ((opd S.f z).as (.int .i64)) fun a => slBound (some a) none n).ex σ = _ from hb)
      have e := RV.int_inv (as_VR hi (hr.opd z))
      have := bounds_ok (P := P) (w := w) (isS := isS) (lo := some i) (hi := none) hb hc
      simpa [e] using this
    | some y =>
      obtain ⟨i, hi, hb⟩ := opt_ex (show (Pr.opt ((opd S.f z).as (.int .i64)) fun a => .opt ((opd S.f y).as (.int .i64)) fun b => slBound (some a) (some b) n).ex σ = _ from hb)
      obtain ⟨j, hj, hb⟩ := opt_ex hb
      have e := RV.int_inv (as_VR hi (hr.opd z))
      have e' := RV.int_inv (as_VR hj (hr.opd y))
      have := bounds_ok (P := P) (w := w) (isS := isS) (lo := some i) (hi := some j) hb hc
      simpa [e, e'] using this

/-- a part of a slice -/
theorem sub_slice {X : Un} {t : Ty} {xs : List (Den t)} {A : Option Addr} {cap l h : Nat} (hv : RV P (.slice t) w X xs (.slice A xs.length cap)) (h1 : l ≤ h) (h2 : h ≤ xs.length) (hc : xs.length ≤ cap) :
    RV P (.slice t) w X ((xs.take h).drop l) (.slice (if cap = l then A else A.map (·.add (l * t.size))) (h - l) (cap - l)) := by
  obtain ⟨A', cap', e, h3, h4⟩ := (RV.one rfl hv).2
  simp only [List.cons.injEq, Value.slice.injEq, and_true] at e
  obtain ⟨rfl, _, rfl⟩ := e
  have hlen : ((xs.take h).drop l).length = h - l := by simp; omega
  refine ⟨rfl, (if cap = l then A else A.map (·.add (l * t.size))), cap - l, by rw [hlen]; rfl, by rw [hlen]; omega, fun i y hy => ?_⟩
  have hi : i < h - l := by rw [← hlen]; exact (List.getElem?_eq_some_iff.1 hy).1
  have hx : xs[l + i]? = some y := by
    rw [List.getElem?_drop, List.getElem?_take] at hy
    split at hy
    · exact hy
    · cases hy
  obtain ⟨b, d, rfl, g2, g3, g4, g5⟩ := h4 _ y hx
  have hne : cap ≠ l := by omega
  refine ⟨⟨b.block, b.off + l * t.size, none⟩, d, by simp [hne, Addr.add_of g2], rfl, g3, ?_, g5⟩
  have : b.off + (l + i) * t.size = b.off + l * t.size + i * t.size := by rw [Nat.add_mul]; omega
  rw [← this]
  exact g4

theorem sim_slice (hE : EnvOK P E) (hr : Rel P IoS w0 X0 γ S a w) {T : TypeId} {ox : Operand} {lo hi mx : Option Operand} (ho : o.op = .slice T ox lo hi mx) (h : (step E S.f o).ex S.o = some (x, σ')) : Sim P IoS w0 X0 S a w o x σ' := by
  cases mx with
  | some m => simp only [step, ho] at h; cases h
  | none =>
    simp only [step, ho] at h
    split at h
    · rename_i h1
      obtain ⟨s, hs, h⟩ := opt_ex h
      obtain ⟨⟨l, u⟩, σ1, h3, h4⟩ := Pr.ex_bind_some h
      obtain ⟨rfl, rfl⟩ := ret_ex h4
      have es := RV.str_inv (as_VR hs (hr.opd ox))
      have hu := (hE.ty _ _ h1).2
      obtain ⟨rfl, g1, g2, g3⟩ := slB_ok hr (lo := lo) (hi := hi) (isS := false) (cap := s.size) (n := s.size) h3 (Nat.le_refl _)
      exact Sim.pure hr (v := .string (s.extract l u)) (by simp [execOp, ho, es, Instr.sliceAt, Instr.slice, run_underlying hu, g3]) RV_str
    · rename_i t h1
      obtain ⟨xs, σ1, h3, h4⟩ := Pr.ex_bind_some h
      obtain ⟨⟨l, u⟩, σ2, h5, h6⟩ := Pr.ex_bind_some h4
      obtain ⟨rfl, rfl⟩ := ret_ex h6
      obtain ⟨hd, hv⟩ := data_VR hE hr h3 (hr.opd ox)
      obtain ⟨A, cap, g1, g2, _⟩ := slice_cells hv
      obtain ⟨_, _, e, u1, u2⟩ := hE.ty _ _ h1
      obtain ⟨rfl, k1, k2, k3⟩ := slB_ok hr (lo := lo) (hi := hi) (isS := true) (cap := cap) (n := xs.length) h5 g2
      rw [g1] at hv
      refine Sim.shared hd (v := .slice (if cap = l then A else A.map (·.add (l * t.size))) (u - l) (cap - l)) ?_ (sub_slice hv k1 k2 g2)
      simp [execOp, ho, g1, Instr.sliceAt, Instr.slice, run_underlying u1, k3, u2.run_size]
    · cases h

theorem arr1 {α β : Type} {xs : Array α} {f : α → β} {y : β} (h : xs.toList.map f = [y]) : ∃ z, xs = #[z] ∧ f z = y := by
  obtain ⟨l⟩ := xs
  match l with
  | [] => cases h
  | [z] => simp at h; exact ⟨z, rfl, h⟩
  | _ :: _ :: _ => simp at h
theorem arr2 {α β : Type} {xs : Array α} {f : α → β} {y y' : β} (h : xs.toList.map f = [y, y']) : ∃ z z', xs = #[z, z'] ∧ f z = y ∧ f z' = y' := by
  obtain ⟨l⟩ := xs
  match l with
  | [] => cases h
  | [z] => simp at h
  | [z, z'] => simp at h; exact ⟨z, z', rfl, h.1, h.2⟩
  | _ :: _ :: _ :: _ => simp at h
theorem arr1' {α : Type} {xs : Array α} {y : α} (h : xs.toList = [y]) : xs = #[y] := by
  obtain ⟨l⟩ := xs
  simpa using h
theorem arr2' {α : Type} {xs : Array α} {y y' : α} (h : xs.toList = [y, y']) : xs = #[y, y'] := by
  obtain ⟨l⟩ := xs
  simpa using h

theorem exec_builtin {c : Call} {b : Builtin} (ho : o.op = .call c) (hc : c.callee = .builtin b) {v : Value} {w' : World}
    (h : (Go.builtin b c.argTypes o.type (c.args.map fun | .const _ => true | _ => false) (c.args.map a.eval)).run P w = .ok (.value v) w') : (execOp a.eval o).run P w = .ok (.value v) w' := by
  simp only [execOp, ho, resolve, hc, Sem.run_bind, Sem.run_pure, Result.andThen_ok, invoke]
  exact h

theorem sim_len (hE : EnvOK P E) (hr : Rel P IoS w0 X0 γ S a w) {c : Call} {t : TypeId} {y : Operand} (ho : o.op = .call c) (hc : c.callee = .builtin .len) (ht : c.argTypes = #[t]) (hy : c.args = #[y])
    (h : (builtin E .len [t] (E.al (o.dst.getD 0)) [opd S.f y]).ex S.o = some (x, σ')) : Sim P IoS w0 X0 S a w o x σ' := by
  simp only [builtin] at h
  split at h
  · rename_i s h1
    obtain ⟨xs, σ1, h3, h4⟩ := Pr.ex_bind_some h
    obtain ⟨rfl, rfl⟩ := ret_ex h4
    obtain ⟨hd, hv⟩ := data_VR hE hr h3 (hr.opd y)
    have hs := hd.same rfl
    subst hs
    obtain ⟨A, cap, g1, g2, _⟩ := slice_cells hv
    obtain ⟨_, _, e, u1, u2⟩ := hE.ty _ _ h1
    refine Sim.pure hr (v := .int .i64 (xs.length : Int)) (exec_builtin ho hc ?_) RV_int
    simp [Go.builtin, ht, hy, Builtin.len_, run_underlying u1, g1, goInt]
  · rename_i h1
    obtain ⟨s, hs, h⟩ := opt_ex h
    obtain ⟨rfl, rfl⟩ := ret_ex h
    have es := RV.str_inv (as_VR hs (hr.opd y))
    have hu := (hE.ty _ _ h1).2
    refine Sim.pure hr (v := .int .i64 (s.size : Int)) (exec_builtin ho hc ?_) RV_int
    simp [Go.builtin, ht, hy, Builtin.len_, run_underlying hu, es, goInt]
  · rename_i n s h1
    obtain ⟨rfl, rfl⟩ := ret_ex h
    obtain ⟨_, e, u1, u2⟩ := hE.ty _ _ h1
    refine Sim.pure hr (v := .int .i64 (n : Int)) (exec_builtin ho hc ?_) RV_int
    simp [Go.builtin, ht, hy, Builtin.len_, run_underlying u1, goInt]
  · cases h

theorem sim_min (hE : EnvOK P E) (hr : Rel P IoS w0 X0 γ S a w) {c : Call} {t u : TypeId} {y z : Operand} (ho : o.op = .call c) (hc : c.callee = .builtin .min) (ht : c.argTypes = #[t, u]) (hy : c.args = #[y, z])
    (h : (builtin E .min [t, u] (E.al (o.dst.getD 0)) [opd S.f y, opd S.f z]).ex S.o = some (x, σ')) : Sim P IoS w0 X0 S a w o x σ' := by
  simp only [builtin] at h
  split at h
  · obtain ⟨i, hi, h⟩ := opt_ex h
    obtain ⟨j, hj, h⟩ := opt_ex h
    obtain ⟨rfl, rfl⟩ := ret_ex h
    have e1 := RV.int_inv (as_VR hi (hr.opd y))
    have e2 := RV.int_inv (as_VR hj (hr.opd z))
    refine Sim.pure hr (exec_builtin ho hc (v := .int _ (if j < i then j else i)) ?_) RV_int
    simp [Go.builtin, ht, hy, Builtin.min_, e1, e2, Builtin.min2]
  · cases h
theorem sim_max (hE : EnvOK P E) (hr : Rel P IoS w0 X0 γ S a w) {c : Call} {t u : TypeId} {y z : Operand} (ho : o.op = .call c) (hc : c.callee = .builtin .max) (ht : c.argTypes = #[t, u]) (hy : c.args = #[y, z])
    (h : (builtin E .max [t, u] (E.al (o.dst.getD 0)) [opd S.f y, opd S.f z]).ex S.o = some (x, σ')) : Sim P IoS w0 X0 S a w o x σ' := by
  simp only [builtin] at h
  split at h
  · obtain ⟨i, hi, h⟩ := opt_ex h
    obtain ⟨j, hj, h⟩ := opt_ex h
    obtain ⟨rfl, rfl⟩ := ret_ex h
    have e1 := RV.int_inv (as_VR hi (hr.opd y))
    have e2 := RV.int_inv (as_VR hj (hr.opd z))
    refine Sim.pure hr (exec_builtin ho hc (v := .int _ (if j > i then j else i)) ?_) RV_int
    simp [Go.builtin, ht, hy, Builtin.max_, e1, e2, Builtin.max2]
  · cases h
end
end Go.AM
end

section
set_option linter.unusedSectionVars false
namespace Go.AM
open RowKit

section
variable {P : Program} {w : World} {X : Un} {E : Env}

theorem TyOK.size1 {t : Ty} (hn : ∀ n, t ≠ .opq n) (hc : t.comp = false) : t.size = 1 := by
  cases t <;> simp [Ty.comp] at hc <;> first | rfl | exact absurd rfl (hn _)

def ldV (u : Ty) (c : List Value) : Value := if u.comp then .agg c.toArray else c.headD undef

theorem ldV_RV {u : Ty} {z : Den u} {c : List Value} (hn : ∀ n, u ≠ .opq n) (hr : RD P u w X z c) : RV P u w X z (ldV u c) ∧ (ldV u c).cells.toList = c := by
  unfold ldV
  cases hc : u.comp with
  | true => exact ⟨⟨hc, by simpa [Value.cells] using hr⟩, by simp [Value.cells]⟩
  | false =>
    have hlen := RD.length u hr
    rw [TyOK.size1 hn hc] at hlen
    obtain ⟨v, rfl⟩ := List.length_eq_one_iff.1 hlen
    have hone := RD.one u hr v (List.mem_cons_self ..)
    have hcell : v.cells = #[v] := by cases v <;> first | rfl | simp [Value.oneCell'] at hone
    refine ⟨⟨?_, ?_⟩, ?_⟩
    · cases v <;> first | exact hc | simp [Value.oneCell'] at hone
    · simp [hcell]; exact hr
    · simp [hcell]

theorem load_at {u : Ty} {T : TypeId} (hT : TyOK P u T) (hn : ∀ n, u ≠ .opq n) {g off : Nat} {c : List Value} (hl : c.length = u.size) (h : ∀ (i : Nat) (v : Value), c[i]? = some v → w.cell? ⟨g, off + i, none⟩ = some v) :
    (loadVar T ⟨g, off, none⟩).run P w = .ok (ldV u c) w := by
  have hadd : ∀ j v, c[j]? = some v → w.cell? ((⟨g, off, none⟩ : Addr).add j) = some v := by
    intro j v hv
    rw [Addr.add_of rfl]
    exact h j v hv
  unfold ldV
  cases hc : u.comp with
  | true =>
    have := run_loadCells_list (P := P) w ⟨g, off, none⟩ c hadd
    rw [hl] at this
    simp [loadVar, hT.run_agg hn, hc, hT.run_size, this]
  | false =>
    rw [TyOK.size1 hn hc] at hl
    obtain ⟨v, rfl⟩ := List.length_eq_one_iff.1 hl
    have h0 := h 0 v rfl
    simp only [Nat.add_zero] at h0
    simp only [loadVar, Sem.run_bind, hT.run_agg hn, hc, Result.andThen_ok, Bool.false_eq_true, if_false]
    simp [load, Sem.run, h0]

/-! ### Parts and where they lie -/
theorem subD_ok : (t : Ty) → ∀ {y : Den t} {p : List Nat} {r : AV} {σ σ' : Store} {cs : List Value}, (subD t y p).ex σ = some (r, σ') → RD P t w X y cs →
    σ = σ' ∧ ∃ u z k pre c post, r = .v u z ∧ tyT t p = some u ∧ offT t p = some k ∧ cs = pre ++ (c ++ post) ∧ pre.length = k ∧ RD P u w X z c
  | .pair a b, y, p, r, σ, σ', cs, h, hr => by
    cases p with
    | nil =>
      obtain ⟨rfl, e2⟩ := ret_ex h
      exact ⟨e2, .pair a b, y, 0, [], cs, [], rfl, rfl, rfl, by simp, rfl, hr⟩
    | cons j p =>
      obtain ⟨c1, c2, rfl, r1, r2⟩ := hr
      cases j with
      | zero =>
        obtain ⟨e, u, z, k, pre, c, post, g1, g2, g3, rfl, g5, g6⟩ := subD_ok a (show (subD a y.1 p).ex σ = some (r, σ') from h) r1
        exact ⟨e, u, z, k, pre, c, post ++ c2, g1, g2, g3, by simp, g5, g6⟩
      | succ j =>
        obtain ⟨e, u, z, k, pre, c, post, g1, g2, g3, rfl, g5, g6⟩ := subD_ok b (show (subD b y.2 (j :: p)).ex σ = some (r, σ') from h) r2
        exact ⟨e, u, z, a.size + k, c1 ++ pre, c, post, g1, g2, by simp [offT, g3], by simp, by rw [List.length_append, RD.length a r1, g5], g6⟩
  | .arr n t, y, p, r, σ, σ', cs, h, hr => by
    cases p with
    | nil =>
      obtain ⟨rfl, e2⟩ := ret_ex h
      exact ⟨e2, .arr n t, y, 0, [], cs, [], rfl, rfl, rfl, by simp, rfl, hr⟩
    | cons j p =>
      obtain ⟨x, hx, h⟩ := opt_ex (show (Pr.opt ((y : List (Den t))[j]?) fun x => subD t x p).ex σ = some (r, σ') from h)
      obtain ⟨pr, c0, po, rfl, k2, k3⟩ := arr_part hr hx
      obtain ⟨e, u, z, k, pre, c, post, g1, g2, g3, rfl, g5, g6⟩ := subD_ok t h k3
      have hj : j < n := by
        have := (List.getElem?_eq_some_iff.1 hx).1
        have h0 : (y : List (Den t)).length = n := hr.1
        omega
      refine ⟨e, u, z, j * t.size + k, pr ++ pre, c, post ++ po, g1, g2, by simp [offT, g3, hj], by simp, by rw [List.length_append, k2, g5], g6⟩
  | .int _, _, p, _, _, _, _, h, hr => by cases p with
    | nil => obtain ⟨rfl, e2⟩ := ret_ex h; exact ⟨e2, _, _, 0, [], _, [], rfl, rfl, rfl, by simp, rfl, hr⟩
    | cons j p => cases h
  | .bool, _, p, _, _, _, _, h, hr => by cases p with
    | nil => obtain ⟨rfl, e2⟩ := ret_ex h; exact ⟨e2, _, _, 0, [], _, [], rfl, rfl, rfl, by simp, rfl, hr⟩
    | cons j p => cases h
  | .str, _, p, _, _, _, _, h, hr => by cases p with
    | nil => obtain ⟨rfl, e2⟩ := ret_ex h; exact ⟨e2, _, _, 0, [], _, [], rfl, rfl, rfl, by simp, rfl, hr⟩
    | cons j p => cases h
  | .unit, _, p, _, _, _, _, h, hr => by cases p with
    | nil => obtain ⟨rfl, e2⟩ := ret_ex h; exact ⟨e2, _, _, 0, [], _, [], rfl, rfl, rfl, by simp, rfl, hr⟩
    | cons j p => cases h
  | .slice _, _, p, _, _, _, _, h, hr => by cases p with
    | nil => obtain ⟨rfl, e2⟩ := ret_ex h; exact ⟨e2, _, _, 0, [], _, [], rfl, rfl, rfl, by simp, rfl, hr⟩
    | cons j p => cases h
  | .ptr _, _, p, _, _, _, _, h, hr => by cases p with
    | nil => obtain ⟨rfl, e2⟩ := ret_ex h; exact ⟨e2, _, _, 0, [], _, [], rfl, rfl, rfl, by simp, rfl, hr⟩
    | cons j p => cases h
  | .nilI, _, p, _, _, _, _, h, hr => by cases p with
    | nil => obtain ⟨rfl, e2⟩ := ret_ex h; exact ⟨e2, _, _, 0, [], _, [], rfl, rfl, rfl, by simp, rfl, hr⟩
    | cons j p => cases h
  | .alt _ _ _, _, p, _, _, _, _, h, hr => by cases p with
    | nil => obtain ⟨rfl, e2⟩ := ret_ex h; exact ⟨e2, _, _, 0, [], _, [], rfl, rfl, rfl, by simp, rfl, hr⟩
    | cons j p => cases h
  | .fn _ _ _, _, p, _, _, _, _, h, hr => by cases p with
    | nil => obtain ⟨rfl, e2⟩ := ret_ex h; exact ⟨e2, _, _, 0, [], _, [], rfl, rfl, rfl, by simp, rfl, hr⟩
    | cons j p => cases h
  | .opq _, _, p, _, _, _, _, h, hr => by cases p with
    | nil => obtain ⟨rfl, e2⟩ := ret_ex h; exact ⟨e2, _, _, 0, [], _, [], rfl, rfl, rfl, by simp, rfl, hr⟩
    | cons j p => cases h

theorem off_append : (t : Ty) → ∀ {p q : List Nat} {s : Ty} {k : Nat}, tyT t p = some s → offT t p = some k → tyT t (p ++ q) = tyT s q ∧ offT t (p ++ q) = (offT s q).map (k + ·)
  | .pair a b, p, q, s, k, h1, h2 => by
    cases p with
    | nil =>
      simp [tyT, offT] at h1 h2
      subst h1; subst h2
      simp
    | cons j p =>
      cases j with
      | zero => exact off_append a (p := p) (show tyT a p = some s from h1) (show offT a p = some k from h2)
      | succ j =>
        obtain ⟨k', h3, rfl⟩ := Option.map_eq_some_iff.1 (show (offT b (j :: p)).map (a.size + ·) = some k from h2)
        obtain ⟨g1, g2⟩ := off_append b (p := j :: p) (q := q) (show tyT b (j :: p) = some s from h1) h3
        refine ⟨g1, ?_⟩
        have : offT (.pair a b) ((j + 1) :: p ++ q) = (offT b (j :: p ++ q)).map (a.size + ·) := rfl
        rw [this, g2, Option.map_map]
        congr 1
        funext x
        simp; omega
  | .arr n t, p, q, s, k, h1, h2 => by
    cases p with
    | nil =>
      simp [tyT, offT] at h1 h2
      subst h1; subst h2
      simp
    | cons j p =>
      have h2' : (if j < n then (offT t p).map (j * t.size + ·) else none) = some k := h2
      split at h2'
      · rename_i hj
        obtain ⟨k', h3, rfl⟩ := Option.map_eq_some_iff.1 h2'
        obtain ⟨g1, g2⟩ := off_append t (p := p) (q := q) (show tyT t p = some s from h1) h3
        refine ⟨g1, ?_⟩
        have : offT (.arr n t) (j :: p ++ q) = (if j < n then (offT t (p ++ q)).map (j * t.size + ·) else none) := rfl
        rw [this, if_pos hj, g2, Option.map_map]
        congr 1
        funext x
        simp; omega
      · cases h2'
  | .int _, p, q, s, k, h1, h2 => by cases p with
    | nil => simp [tyT, offT] at h1 h2; subst h1; subst h2; simp
    | cons j p => cases h1
  | .bool, p, q, s, k, h1, h2 => by cases p with
    | nil => simp [tyT, offT] at h1 h2; subst h1; subst h2; simp
    | cons j p => cases h1
  | .str, p, q, s, k, h1, h2 => by cases p with
    | nil => simp [tyT, offT] at h1 h2; subst h1; subst h2; simp
    | cons j p => cases h1
  | .unit, p, q, s, k, h1, h2 => by cases p with
    | nil => simp [tyT, offT] at h1 h2; subst h1; subst h2; simp
    | cons j p => cases h1
  | .slice _, p, q, s, k, h1, h2 => by cases p with
    | nil => simp [tyT, offT] at h1 h2; subst h1; subst h2; simp
    | cons j p => cases h1
  | .ptr _, p, q, s, k, h1, h2 => by cases p with
    | nil => simp [tyT, offT] at h1 h2; subst h1; subst h2; simp
    | cons j p => cases h1
  | .nilI, p, q, s, k, h1, h2 => by cases p with
    | nil => simp [tyT, offT] at h1 h2; subst h1; subst h2; simp
    | cons j p => cases h1
  | .alt _ _ _, p, q, s, k, h1, h2 => by cases p with
    | nil => simp [tyT, offT] at h1 h2; subst h1; subst h2; simp
    | cons j p => cases h1
  | .fn _ _ _, p, q, s, k, h1, h2 => by cases p with
    | nil => simp [tyT, offT] at h1 h2; subst h1; subst h2; simp
    | cons j p => cases h1
  | .opq _, p, q, s, k, h1, h2 => by cases p with
    | nil => simp [tyT, offT] at h1 h2; subst h1; subst h2; simp
    | cons j p => cases h1

theorem offP_append {ob : Ob} {p q : List Nat} {s : Ty} {k : Nat} (h1 : tyP ob p = some s) (h2 : offP ob p = some k) : tyP ob (p ++ q) = tyT s q ∧ offP ob (p ++ q) = (offT s q).map (k + ·) := by
  cases ob with
  | box t fs n sh => exact off_append t h1 h2
  | arr e t xs n sh =>
    cases p with
    | nil => cases h1
    | cons j p =>
      have h2' : (if j < xs.length then (offT t p).map (j * t.size + ·) else none) = some k := h2
      split at h2'
      · rename_i hj
        obtain ⟨k', h3, rfl⟩ := Option.map_eq_some_iff.1 h2'
        obtain ⟨g1, g2⟩ := off_append t (p := p) (q := q) (show tyT t p = some s from h1) h3
        refine ⟨g1, ?_⟩
        have : offP (.arr e t xs n sh) (j :: p ++ q) = (if j < xs.length then (offT t (p ++ q)).map (j * t.size + ·) else none) := rfl
        rw [this, if_pos hj, g2, Option.map_map]
        congr 1
        funext x
        simp; omega
      · cases h2'
  | iter s p n => cases h1

theorem fs_off : (b : Ty) → ∀ {l : List Field} {k j : Nat} {u : Ty}, FsOK P b l k → tyT b [j] = some u → ∃ f o, l[j]? = some f ∧ (TyOK P u f.type ∧ 0 < u.size) ∧ offT b [j] = some o ∧ f.offset = k + o
  | .unit, l, k, j, u, hf, h => by cases h
  | .pair a b, l, k, j, u, hf, h => by
    obtain ⟨f, l', rfl, ⟨h1, h2, h3, h4⟩, h5⟩ := hf
    cases j with
    | zero =>
      have h' : tyT a [] = some u := h
      have : a = u := by cases a <;> simpa [tyT] using h'
      subst this
      exact ⟨f, 0, rfl, ⟨h4, h2⟩, by show offT a [] = some 0; cases a <;> rfl, by omega⟩
    | succ j =>
      obtain ⟨f', o, g1, g2, g3, g4⟩ := fs_off b h5 (show tyT b [j] = some u from h)
      refine ⟨f', a.size + o, g1, g2, ?_, by omega⟩
      show (offT b [j]).map (a.size + ·) = _
      rw [g3]; rfl
  | .int _, _, _, _, _, h, _ => h.elim
  | .bool, _, _, _, _, h, _ => h.elim
  | .str, _, _, _, _, h, _ => h.elim
  | .arr _ _, _, _, _, _, h, _ => h.elim
  | .slice _, _, _, _, _, h, _ => h.elim
  | .ptr _, _, _, _, _, h, _ => h.elim
  | .nilI, _, _, _, _, h, _ => h.elim
  | .alt _ _ _, _, _, _, _, h, _ => h.elim
  | .fn _ _ _, _, _, _, _, h, _ => h.elim
  | .opq _, _, _, _, _, h, _ => h.elim

/-- cells of a part -/
theorem cellsAt.part {b o : Nat} {pre c post : List Value} (h : cellsAt w X b o (pre ++ (c ++ post))) : cellsAt w X b (o + pre.length) c := by
  intro i v hv
  have hi := (List.getElem?_eq_some_iff.1 hv).1
  have := h (pre.length + i) v (by rw [List.getElem?_append_right (by omega), Nat.add_sub_cancel_left, List.getElem?_append_left hi]; exact hv)
  rwa [← Nat.add_assoc] at this
end

section
variable {P : Program} {IoS : Nat → Prop} {w0 : World} {X0 : Un} {γ : Id → Value} {S : St} {a : Act} {w : World} {E : Env} {o : Oper} {x : AV} {σ' : Store}

theorem toNat_lt {i : Int} {m : Nat} (h1 : 0 ≤ i) (h2 : i < m) : i.toNat < m := by omega
/-- a reference that still holds -/
theorem ref_ok {i n : Nat} {p : List Nat} {v : Value} {o : Store} {X : Un} {ob : Ob} (hv : VR P w X o γ (.ref i n p) v) (hi : o i = some ob) (hn : ob.ver = n) : ∃ b off, baseOf (γ i) = some b ∧ offP ob p = some off ∧ v = .pointer (some ⟨b, off, none⟩) := by
  obtain ⟨ob', val, g1, g2, g3, g4⟩ := hv
  rw [hi] at g1
  simp only [Option.some.injEq] at g1
  subst g1
  simp only [List.cons.injEq, and_true] at g3
  subst g3
  exact g4 hn.symm

theorem ptr_inv {X : Un} {t : Ty} {y : Den t} {v : Value} (h : RV P (.ptr t) w X (some y) v) : ∃ (A : Addr) (d : List Value), v = .pointer (some ⟨A.block, A.off, none⟩) ∧ d.length = t.size ∧ cellsAt w X A.block A.off d ∧ RD P t w X y d := by
  obtain ⟨A, d, h1, h2, h3⟩ := (RV.one rfl h).2
  simp only [List.cons.injEq, and_true] at h1
  refine ⟨A, d, ?_, h3⟩
  obtain ⟨b, o, s⟩ := A
  subst h2
  exact h1

theorem mk_ptr {X : Un} {t : Ty} {y : Den t} {b off : Nat} {d : List Value} (h2 : cellsAt w X b off d) (h3 : RD P t w X y d) : RV P (.ptr t) w X (some y) (.pointer (some ⟨b, off, none⟩)) :=
  ⟨rfl, ⟨b, off, none⟩, d, rfl, rfl, RD.length t h3, h2, h3⟩

theorem sim_fieldAddr (hE : EnvOK P E) (hr : Rel P IoS w0 X0 γ S a w) {T : TypeId} {ox : Operand} {j : Nat} (ho : o.op = .fieldAddr T ox j) (h : (step E S.f o).ex S.o = some (x, σ')) : Sim P IoS w0 X0 S a w o x σ' := by
  simp only [step, ho] at h
  have hv := hr.opd ox
  split at h
  · rename_i t y hx
    rw [hx] at hv
    split at h
    · rename_i hc
      simp only [Bool.and_eq_true, decide_eq_true_eq] at hc
      obtain ⟨z, hz, h⟩ := opt_ex h
      obtain ⟨q, σ1, h3, h4⟩ := Pr.ex_bind_some h
      subst hz
      split at h4
      · rename_i u q
        obtain ⟨rfl, rfl⟩ := ret_ex h4
        obtain ⟨A, d, e1, e2, e3, e4⟩ := ptr_inv (show RV P (.ptr t) w (unst X0 S.o γ) (some z) (a.eval ox) from hv)
        obtain ⟨fs, u1, u2⟩ := (hE.ty _ _ hc.1).fields hc.2
        obtain ⟨rfl, f, pre, c, post, g1, g2, rfl, g4, g5⟩ := fs_part t u2 h3 e4
        have g1' : fs[j]? = some f := by simpa using g1
        have hsz : u.size ≠ 0 := by have := g2.2; omega
        refine Sim.pure hr (v := .pointer (some ⟨A.block, A.off + f.offset, none⟩)) ?_ (mk_ptr (d := c) ?_ g5)
        · simp [execOp, ho, e1, Instr.fieldAt, run_underlying u1, g1', Instr.sureAddr, fieldPlace, g2.1.run_size, hsz, Addr.add_of]
        · have := e3.part
          rw [← g4, Nat.zero_add]
          exact this
      · cases h4
    · cases h
  · rename_i i n p hx
    rw [hx] at hv
    obtain ⟨ob, hi, h⟩ := get_ex h
    split at h
    · rename_i hc
      simp only [Bool.and_eq_true, decide_eq_true_eq] at hc
      obtain ⟨⟨⟨hc1, hc2⟩, hc3⟩, hc4⟩ := hc
      obtain ⟨rfl, rfl⟩ := ret_ex h
      obtain ⟨b, off, j1, j2, j3⟩ := ref_ok hv hi hc1
      cases hT : E.ty T with
      | none => rw [hT] at hc4; cases hc4
      | some s =>
        rw [hT] at hc2 hc4
        obtain ⟨fs, u1, u2⟩ := (hE.ty _ _ hT).fields hc4
        obtain ⟨k1, k2⟩ := offP_append (q := [j]) hc2 j2
        rw [k1] at hc3
        obtain ⟨u, hu⟩ := Option.isSome_iff_exists.1 hc3
        obtain ⟨f, q, g1, g2, g3, g4⟩ := fs_off s u2 hu
        have g1' : fs[j]? = some f := by simpa using g1
        have hsz : u.size ≠ 0 := by have := g2.2; omega
        refine Sim.pure hr (v := .pointer (some ⟨b, off + f.offset, none⟩)) ?_ ?_
        · simp [execOp, ho, j3, Instr.fieldAt, run_underlying u1, g1', Instr.sureAddr, fieldPlace, g2.1.run_size, hsz, Addr.add_of]
        · refine ⟨ob, _, hi, ⟨Nat.le_of_eq hc1.symm, rfl⟩, rfl, fun _ => ⟨b, off + f.offset, j1, ?_, rfl⟩⟩
          rw [k2, g3, g4]; simp
    · cases h
  · cases h

theorem sim_indexAddr (hE : EnvOK P E) (hr : Rel P IoS w0 X0 γ S a w) {T : TypeId} {ox oi : Operand} (ho : o.op = .indexAddr T ox oi) (h : (step E S.f o).ex S.o = some (x, σ')) : Sim P IoS w0 X0 S a w o x σ' := by
  simp only [step, ho] at h
  obtain ⟨i, hi, h⟩ := opt_ex h
  obtain ⟨ik, ei⟩ := idx_VR hi (hr.opd oi)
  have hv := hr.opd ox
  split at h
  · rename_i t hT
    obtain ⟨_, hpos, e, u1, u2⟩ := hE.ty _ _ hT
    split at h
    · rename_i id n hx
      rw [hx] at hv
      obtain ⟨ob, hob, g0⟩ := get_ex h
      clear h
      split at g0
      · rename_i e' t' xs n' sh
        split at g0
        · rename_i hc
          simp only [Bool.and_eq_true, decide_eq_true_eq] at hc
          obtain ⟨rfl, rfl⟩ := hc
          obtain ⟨z, hz, g0⟩ := opt_ex g0
          obtain ⟨rfl, rfl⟩ := ret_ex g0
          obtain ⟨b1, b2, b3⟩ := at?_some hz
          obtain ⟨ob', val, g1, g2, g3, g4⟩ := hv
          rw [hob] at g1
          simp only [Option.some.injEq] at g1
          subst g1
          simp only [List.cons.injEq, and_true] at g3
          have hval := (g4 rfl).1
          obtain ⟨cells, css, q1, q2, q3, q4, q5⟩ := hr.obs id _ hob
          rcases q1.2 with ⟨q6, q7⟩ | ⟨g, cap, cur, q6, _⟩
          · omega
          · have hev : a.eval ox = .slice (some ⟨g, 0, none⟩) xs.length cap := by rw [g3, hval, q6]
            have hil : i.toNat < xs.length := by omega
            refine Sim.pure hr (v := .pointer (some ⟨g, i.toNat * t'.size, none⟩)) ?_ ?_
            · simp [execOp, ho, ei, hev, Instr.indexAt, asIntOf, run_underlying u1, b1, b2, u2.run_size, Addr.add_plain]
            · refine ⟨_, _, hob, ⟨Nat.le_refl _, rfl⟩, rfl, fun _ => ⟨g, i.toNat * t'.size, by rw [q6]; rfl, ?_, rfl⟩⟩
              have : offT t' [] = some 0 := by cases t' <;> rfl
              simp [offP, hil, this]
        · cases g0
      · cases g0
    · rename_i y hx
      obtain ⟨xs, hxs, h⟩ := opt_ex h
      obtain ⟨z, hz, h⟩ := opt_ex h
      obtain ⟨rfl, rfl⟩ := ret_ex h
      obtain ⟨b1, b2, b3⟩ := at?_some hz
      obtain ⟨A, cap, q1, q2, q3⟩ := (RV.one rfl (as_VR hxs hv)).2
      simp only [List.cons.injEq, and_true] at q1
      obtain ⟨A', d, rfl, k2, k3, k4, k5⟩ := q3 _ z b3
      refine Sim.pure hr (v := .pointer (some ⟨A'.block, A'.off + i.toNat * t.size, none⟩)) ?_ (mk_ptr k4 k5)
      simp [execOp, ho, ei, q1, Instr.indexAt, asIntOf, run_underlying u1, b1, b2, u2.run_size, Addr.add_of k2]
  · rename_i m t hT
    obtain ⟨_, e, u1, u2⟩ := hE.ty _ _ hT
    split at h
    · rename_i id n p hx
      rw [hx] at hv
      obtain ⟨ob, hob, h⟩ := get_ex h
      split at h
      · rename_i hc
        simp only [Bool.and_eq_true, decide_eq_true_eq] at hc
        rcases ite_ex h with ⟨hb, h⟩ | ⟨_, h⟩
        · simp only [Bool.and_eq_true, decide_eq_true_eq] at hb
          obtain ⟨rfl, rfl⟩ := ret_ex h
          obtain ⟨b, off, j1, j2, j3⟩ := ref_ok hv hob hc.1
          have hil : i.toNat < m := toNat_lt hb.1 hb.2
          obtain ⟨k1, k2⟩ := offP_append (q := [i.toNat]) hc.2 j2
          refine Sim.pure hr (v := .pointer (some ⟨b, off + i.toNat * t.size, none⟩)) ?_ ?_
          · simp [execOp, ho, ei, j3, Instr.indexAt, asIntOf, run_underlying u1, Instr.sureAddr, hb.1, hb.2, u2.run_size, Addr.add_of]
          · refine ⟨ob, _, hob, ⟨Nat.le_of_eq hc.1.symm, rfl⟩, rfl, fun _ => ⟨b, off + i.toNat * t.size, j1, ?_, rfl⟩⟩
            have : offT t [] = some 0 := by cases t <;> rfl
            rw [k2]
            simp [offT, hil, this]
        · cases h
      · cases h
    · rename_i u y hx
      rw [hx] at hv
      split at h
      · rename_i hu
        subst hu
        obtain ⟨q, hq, h⟩ := opt_ex h
        obtain ⟨xs, hxs, h⟩ := opt_ex h
        obtain ⟨z, hz, h⟩ := opt_ex h
        obtain ⟨rfl, rfl⟩ := ret_ex h
        obtain ⟨e', hq'⟩ := cast?_some hq
        have : q = y := by cases e'; exact hq'
        subst this
        subst hxs
        obtain ⟨b1, b2, b3⟩ := at?_some hz
        obtain ⟨A, d, e1, e2, e3, e4⟩ := ptr_inv (show RV P (.ptr (.arr m t)) w (unst X0 S.o γ) (some xs) (a.eval ox) from hv)
        obtain ⟨pre, c, post, rfl, g4, g5⟩ := arr_part e4 b3
        have hm : (xs : List (Den t)).length = m := e4.1
        have b2' : i < (m : Int) := by rw [← hm]; exact b2
        refine Sim.pure hr (v := .pointer (some ⟨A.block, A.off + i.toNat * t.size, none⟩)) ?_ (mk_ptr (d := c) ?_ g5)
        · simp [execOp, ho, ei, e1, Instr.indexAt, asIntOf, run_underlying u1, Instr.sureAddr, b1, b2', u2.run_size, Addr.add_of]
        · have := e3.part
          rw [g4] at this
          exact this
      · cases h
    · cases h
  · cases h
end
end Go.AM
end

section
set_option linter.unusedSectionVars false
namespace Go.AM
open RowKit

section
variable {P : Program} {w : World} {X : Un} {E : Env} {o : Store} {γ : Id → Value}

theorem litAs_one : (t : Ty) → ∀ {c : Value}, (litAs t c).isSome = true → t.comp = false ∧ c.cells = #[c] ∧ c.oneCell' = true ∧ t.size = 1
  | .int k, c, h => by obtain ⟨x, hx⟩ := Option.isSome_iff_exists.1 h; have := litInt_eq (show litInt k c = some x from hx); subst this; exact ⟨rfl, rfl, rfl, rfl⟩
  | .bool, c, h => by obtain ⟨x, hx⟩ := Option.isSome_iff_exists.1 h; have := litBool_eq (show litBool c = some x from hx); subst this; exact ⟨rfl, rfl, rfl, rfl⟩
  | .str, c, h => by obtain ⟨x, hx⟩ := Option.isSome_iff_exists.1 h; have := litStr_eq (show litStr c = some x from hx); subst this; exact ⟨rfl, rfl, rfl, rfl⟩
  | .unit, c, h => by cases h
  | .pair _ _, c, h => by cases h
  | .arr _ _, c, h => by cases h
  | .opq _, c, h => by cases h
  | .slice t, c, h => by
    have h' : (if nilSl c then some ([] : List (Den t)) else none).isSome = true := h
    split at h'
    · rename_i hc; have := nilSl_eq hc; subst this; exact ⟨rfl, rfl, rfl, rfl⟩
    · cases h'
  | .ptr t, c, h => by
    have h' : (if nilPtr c then some (none : Option (Den t)) else none).isSome = true := h
    split at h'
    · rename_i hc; have := nilPtr_eq hc; subst this; exact ⟨rfl, rfl, rfl, rfl⟩
    · cases h'
  | .nilI, c, h => by
    have h' : (if nilIf c then some () else none).isSome = true := h
    split at h'
    · rename_i hc; have := nilIf_eq hc; subst this; exact ⟨rfl, rfl, rfl, rfl⟩
    · cases h'
  | .alt u a r, c, h => by
    have h' : (if nilIf c then (litAs r c).map (Sum.inr (α := Den a)) else none).isSome = true := h
    split at h'
    · rename_i hc; have := nilIf_eq hc; subst this; exact ⟨rfl, rfl, rfl, rfl⟩
    · cases h'
  | .fn a k b, c, h => by
    have h' : (if nilFn c then some (none : Option (Nat → Den a → Option (Den b))) else none).isSome = true := h
    split at h'
    · rename_i hc; have := nilFn_eq hc; subst this; exact ⟨rfl, rfl, rfl, rfl⟩
    · cases h'

theorem VC_length {a : Ty} {x : AV} {c : List Value} (ho : okF a x = true) (h : VC P w X o γ x c) : c.length = a.size := by
  cases x with
  | v t y =>
    have : t = a := by simpa [okF] using ho
    subst this
    exact RD.length t h
  | lit l =>
    obtain ⟨h1, h2, h3, h4⟩ := litAs_one a (show (litAs a l).isSome = true from ho)
    rw [show c = l.cells.toList from h, h2, h4]; rfl
  | own i n =>
    obtain ⟨ob, val, _, _, rfl, _⟩ := h
    cases a <;> first | rfl | (cases ho; done)
  | ref i n p =>
    obtain ⟨ob, val, _, _, rfl, _⟩ := h
    cases a <;> first | rfl | (cases ho; done)
  | fnc f =>
    rw [show c = [.func (.func f) #[] #[]] from h]
    cases a <;> first | rfl | (cases ho; done)
  | agg l => cases ho
  | tup l => cases ho
  | undef => cases ho

theorem VC_VR1 {a : Ty} {x : AV} {c : List Value} (ho : okF a x = true) (h : VC P w X o γ x c) (hn : ∀ n, a ≠ .opq n) : VR1 P w X o γ x (ldV a c) := by
  cases x with
  | v t y =>
    have : t = a := by simpa [okF] using ho
    subst this
    exact (ldV_RV hn h).1
  | lit l =>
    obtain ⟨h1, h2, h3, h4⟩ := litAs_one a (show (litAs a l).isSome = true from ho)
    rw [show c = l.cells.toList from h, h2]
    simp [ldV, h1]
    exact rfl
  | own i n =>
    have hc : a.comp = false := by cases a <;> first | rfl | (cases ho; done)
    obtain ⟨ob, val, g1, g2, rfl, g4⟩ := h
    simp only [ldV, hc, Bool.false_eq_true, if_false, List.headD_cons]
    exact ⟨ob, val, g1, g2, rfl, g4⟩
  | ref i n p =>
    have hc : a.comp = false := by cases a <;> first | rfl | (cases ho; done)
    obtain ⟨ob, val, g1, g2, rfl, g4⟩ := h
    simp only [ldV, hc, Bool.false_eq_true, if_false, List.headD_cons]
    exact ⟨ob, val, g1, g2, rfl, g4⟩
  | fnc f =>
    have hc : a.comp = false := by cases a <;> first | rfl | (cases ho; done)
    have h' : c = [.func (.func f) #[] #[]] := h
    subst h'
    simp only [ldV, hc, Bool.false_eq_true, if_false, List.headD_cons]
    exact rfl
  | agg l => cases ho
  | tup l => cases ho
  | undef => cases ho

theorem offT_nil (t : Ty) : offT t [] = some 0 := by cases t <;> rfl
theorem tyT_nil (t : Ty) : tyT t [] = some t := by cases t <;> rfl
theorem nthTy_tyT : (t : Ty) → ∀ {j : Nat} {a : Ty}, nthTy t j = some a → tyT t [j] = some a
  | .pair a b, j, u, h => by
    cases j with
    | zero => have : some a = some u := h; rw [← this]; exact tyT_nil a
    | succ j => exact nthTy_tyT b (show nthTy b j = some u from h)
  | .int _, _, _, h => by cases h
  | .bool, _, _, h => by cases h
  | .str, _, _, h => by cases h
  | .unit, _, _, h => by cases h
  | .arr _ _, _, _, h => by cases h
  | .slice _, _, _, h => by cases h
  | .ptr _, _, _, h => by cases h
  | .nilI, _, _, h => by cases h
  | .alt _ _ _, _, _, h => by cases h
  | .fn _ _ _, _, _, h => by cases h
  | .opq _, _, _, h => by cases h

theorem nth_some : (t : Ty) → ∀ {j : Nat}, j < t.len → ∃ a, nthTy t j = some a
  | .pair a b, j, h => by
    cases j with
    | zero => exact ⟨a, rfl⟩
    | succ j => exact nth_some b (j := j) (by simp only [Ty.len] at h; omega)
  | .int _, _, h => by simp [Ty.len] at h
  | .bool, _, h => by simp [Ty.len] at h
  | .str, _, h => by simp [Ty.len] at h
  | .unit, _, h => by simp [Ty.len] at h
  | .arr _ _, _, h => by simp [Ty.len] at h
  | .slice _, _, h => by simp [Ty.len] at h
  | .ptr _, _, h => by simp [Ty.len] at h
  | .nilI, _, h => by simp [Ty.len] at h
  | .alt _ _ _, _, h => by simp [Ty.len] at h
  | .fn _ _ _, _, h => by simp [Ty.len] at h
  | .opq _, _, h => by simp [Ty.len] at h

/-- one field among the cells -/
theorem VCs_split : (t : Ty) → ∀ {fs : List AV} {cs : List Value} {j : Nat} {x : AV} {a : Ty}, (∀ (i : Nat) (x : AV) (a : Ty), fs[i]? = some x → nthTy t i = some a → okF a x = true) → VCs P w X o γ fs cs → fs[j]? = some x → nthTy t j = some a →
    ∃ pre c post, cs = pre ++ (c ++ post) ∧ VC P w X o γ x c ∧ offT t [j] = some pre.length ∧ okF a x = true ∧
      ∀ (y : AV) (d : List Value) (w' : World) (X' : Un) (o' : Store) (γ' : Id → Value), VCs P w' X' o' γ' fs cs → VC P w' X' o' γ' y d → d.length = c.length → VCs P w' X' o' γ' (fs.set j y) (pre ++ (d ++ post))
  | .pair a b, fs, cs, j, x, u, hok, h, hx, ha => by
    cases fs with
    | nil => simp at hx
    | cons z fs =>
      obtain ⟨c1, c2, rfl, h1, h2⟩ := h
      have hz := hok 0 z a rfl rfl
      have hl := VC_length hz h1
      cases j with
      | zero =>
        have hx' : z = x := by simpa using hx
        have ha' : a = u := by have : some a = some u := ha; simpa using this
        subst hx'; subst ha'
        refine ⟨[], c1, c2, rfl, h1, offT_nil a, hz, ?_⟩
        intro y d w' X' o' γ' hvs hv hd
        obtain ⟨e1, e2, he, g1, g2⟩ := hvs
        have hle : e1.length = c1.length := by rw [hl]; exact VC_length hz g1
        obtain ⟨rfl, rfl⟩ := List.append_inj he hle.symm
        exact ⟨d, c2, rfl, hv, g2⟩
      | succ j =>
        obtain ⟨pre, c, post, rfl, g2, g3, g4, g5⟩ := VCs_split b (fun i x a hx ha => hok (i + 1) x a (by simpa using hx) ha) h2 (show fs[j]? = some x by simpa using hx) (show nthTy b j = some u from ha)
        refine ⟨c1 ++ pre, c, post, by simp, g2, ?_, g4, ?_⟩
        · show (offT b [j]).map (a.size + ·) = _
          rw [g3, ← hl]; simp
        · intro y d w' X' o' γ' hvs hv hd
          obtain ⟨e1, e2, he, q1, q2⟩ := hvs
          have hle : e1.length = c1.length := by rw [hl]; exact VC_length hz q1
          obtain ⟨rfl, rfl⟩ := List.append_inj he hle.symm
          exact ⟨c1, pre ++ (d ++ post), by simp, q1, g5 y d w' X' o' γ' q2 hv hd⟩
  | .int _, _, _, _, _, _, _, _, _, h => by cases h
  | .bool, _, _, _, _, _, _, _, _, h => by cases h
  | .str, _, _, _, _, _, _, _, _, h => by cases h
  | .unit, _, _, _, _, _, _, _, _, h => by cases h
  | .arr _ _, _, _, _, _, _, _, _, _, h => by cases h
  | .slice _, _, _, _, _, _, _, _, _, h => by cases h
  | .ptr _, _, _, _, _, _, _, _, _, h => by cases h
  | .nilI, _, _, _, _, _, _, _, _, h => by cases h
  | .alt _ _ _, _, _, _, _, _, _, _, _, h => by cases h
  | .fn _ _ _, _, _, _, _, _, _, _, _, h => by cases h
  | .opq _, _, _, _, _, _, _, _, _, h => by cases h

theorem sub_ok {a : Ty} {x : AV} {p : List Nat} {c : List Value} {r : AV} {σ σ' : Store} {u : Ty} (ho : okF a x = true) (h : VC P w X o γ x c) (hs : (sub x p).ex σ = some (r, σ')) (hu : tyT a p = some u) (hn : ∀ n, u ≠ .opq n) :
    σ = σ' ∧ ∃ pre c1 post, offT a p = some pre.length ∧ c = pre ++ (c1 ++ post) ∧ c1.length = u.size ∧ VR1 P w X o γ r (ldV u c1) := by
  cases p with
  | nil =>
    rw [tyT_nil] at hu
    simp only [Option.some.injEq] at hu
    subst hu
    obtain ⟨rfl, e⟩ := ret_ex (show (Pr.ret x).ex σ = some (r, σ') by cases x <;> exact hs)
    exact ⟨e, [], c, [], by rw [offT_nil]; rfl, by simp, VC_length ho h, VC_VR1 ho h hn⟩
  | cons j p =>
    cases x with
    | v t y =>
      have : t = a := by simpa [okF] using ho
      subst this
      obtain ⟨e, u', z, k, pre, c1, post, g1, g2, g3, rfl, g5, g6⟩ := subD_ok t (show (subD t y (j :: p)).ex σ = some (r, σ') from hs) h
      rw [hu] at g2
      simp only [Option.some.injEq] at g2
      subst g2
      subst g1
      exact ⟨e, pre, c1, post, by rw [g5]; exact g3, rfl, RD.length u g6, (ldV_RV hn g6).1⟩
    | agg l => cases ho
    | lit l => cases hs
    | own i n => cases hs
    | ref i n p => cases hs
    | fnc f => cases hs
    | tup l => cases ho
    | undef => cases ho

/-- a row's elements, cut at one of them -/
theorem css_cut {t : Ty} {xs : List (Den t)} {css : List (List Value)} {j : Nat} {x : Den t} (hl : css.length = xs.length) (h : ∀ (i : Nat) (x : Den t) (d : List Value), xs[i]? = some x → css[i]? = some d → RD P t w X x d) (hx : xs[j]? = some x) :
    ∃ pre c post, css.flatten = pre ++ (c ++ post) ∧ pre.length = j * t.size ∧ RD P t w X x c := by
  have := arr_part (P := P) (w := w) (X := X) (n := xs.length) (t := t) (xs := xs) ⟨rfl, css, rfl, hl, h⟩ hx
  exact this

theorem VCs_len : (b : Ty) → ∀ {l : List Field} {k : Nat} {fs : List AV} {cs : List Value}, FsOK P b l k → fs.length = b.len → (∀ (i : Nat) (x : AV) (a : Ty), fs[i]? = some x → nthTy b i = some a → okF a x = true) → VCs P w X o γ fs cs → cs.length = b.size
  | .unit, l, k, fs, cs, hf, hl, hok, h => by
    have : fs = [] := List.eq_nil_of_length_eq_zero hl
    subst this
    rw [show cs = [] from h]; rfl
  | .pair a b, l, k, fs, cs, hf, hl, hok, h => by
    obtain ⟨f, l', rfl, _, h5⟩ := hf
    cases fs with
    | nil => simp [Ty.len] at hl
    | cons x fs =>
      obtain ⟨c1, c2, rfl, h1, h2⟩ := h
      rw [List.length_append, VC_length (hok 0 x a rfl rfl) h1, VCs_len b h5 (by simp only [Ty.len, List.length_cons] at hl; omega) (fun i x a hx ha => hok (i + 1) x a (by simpa using hx) ha) h2]
      rfl
  | .int _, _, _, _, _, h, _, _, _ => h.elim
  | .bool, _, _, _, _, h, _, _, _ => h.elim
  | .str, _, _, _, _, h, _, _, _ => h.elim
  | .arr _ _, _, _, _, _, h, _, _, _ => h.elim
  | .slice _, _, _, _, _, h, _, _, _ => h.elim
  | .ptr _, _, _, _, _, h, _, _, _ => h.elim
  | .nilI, _, _, _, _, h, _, _, _ => h.elim
  | .alt _ _ _, _, _, _, _, h, _, _, _ => h.elim
  | .fn _ _ _, _, _, _, _, h, _, _, _ => h.elim
  | .opq _, _, _, _, _, h, _, _, _ => h.elim

theorem loadOb_ok {ob : Ob} {v : Value} {p : List Nat} {off : Nat} {u : Ty} {r : AV} {σ σ' : Store} (h : OR P w X o γ ob v) (hp : offP ob p = some off) (hu : tyP ob p = some u) {T : TypeId} (hT : TyOK P u T) (hn : ∀ n, u ≠ .opq n) (hl : (loadOb ob p).ex σ = some (r, σ')) :
    σ = σ' ∧ ∃ b c, baseOf v = some b ∧ c.length = u.size ∧ (∀ (i : Nat) (x : Value), c[i]? = some x → w.cell? ⟨b, off + i, none⟩ = some x) ∧ VR1 P w X o γ r (ldV u c) := by
  cases ob with
  | iter s p n => cases hu
  | box t fs n sh =>
    obtain ⟨b, cells, T, rfl, h2, h3, h4, h5⟩ := h
    have cell : ∀ k x, cells.toList[k]? = some x → w.cell? ⟨b, k, none⟩ = some x := by
      intro k x hx
      simp only [World.cell?, h2]
      simpa using hx
    have key : σ = σ' ∧ ∃ pre c post, off = pre.length ∧ cells.toList = pre ++ (c ++ post) ∧ c.length = u.size ∧ VR1 P w X o γ r (ldV u c) := by
      have hl' : (if t.cmp then loadFs fs p else load1 fs p).ex σ = some (r, σ') := hl
      cases hc : t.cmp with
      | true =>
        rw [hc] at hl' h3 h4
        simp only [if_true] at hl' h3 h4
        cases p with
        | nil =>
          obtain ⟨rfl, e⟩ := ret_ex hl'
          have hu' : tyT t [] = some u := hu
          rw [tyT_nil] at hu'
          simp only [Option.some.injEq] at hu'
          subst hu'
          have hp' : offT t [] = some off := hp
          rw [offT_nil] at hp'
          simp only [Option.some.injEq] at hp'
          subst hp'
          have hcomp : t.comp = true := by cases t <;> simp [Ty.cmp] at hc <;> rfl
          have hlen : cells.toList.length = t.size := by
            obtain ⟨l, _, hf⟩ := hT.fields hc
            exact VCs_len t hf h3 h4 h5
          refine ⟨e, [], cells.toList, [], rfl, by simp, hlen, ?_⟩
          simp only [ldV, hcomp, if_true, Array.toArray_toList]
          exact ⟨cells, rfl, h5⟩
        | cons j p =>
          have hl2 : (match fs[j]? with | some x => sub x p | none => .fail).ex σ = some (r, σ') := hl'
          split at hl2
          · rename_i x hx
            have hj : j < t.len := by rw [← h3]; exact (List.getElem?_eq_some_iff.1 hx).1
            obtain ⟨a, ha⟩ := nth_some t hj
            obtain ⟨pre, c, post, e1, e2, e3, e4, _⟩ := VCs_split t h4 h5 hx ha
            have hta := nthTy_tyT t ha
            obtain ⟨k1, k2⟩ := off_append t (p := [j]) (q := p) hta e3
            have hu' : tyT a p = some u := by rw [← k1]; exact hu
            obtain ⟨q1, pre', c1, post', q2, q3, q4, q5⟩ := sub_ok e4 e2 hl2 hu' hn
            have hoff : some off = some (pre.length + pre'.length) := by
              have : offT t ([j] ++ p) = some off := hp
              rw [← this, k2, q2]; rfl
            simp only [Option.some.injEq] at hoff
            refine ⟨q1, pre ++ pre', c1, post' ++ post, by simp [hoff], by rw [e1, q3]; simp, q4, q5⟩
          · cases hl2
      | false =>
        rw [hc] at hl' h3 h4
        simp only [Bool.false_eq_true, if_false] at hl' h3 h4
        unfold load1 at hl'
        split at hl'
        · rename_i _ x
          have hok := h4 0 x t rfl rfl
          obtain ⟨c1, c2, e1, e2, e3⟩ := h5
          have : c2 = [] := e3
          subst this
          rw [List.append_nil] at e1
          obtain ⟨q1, pre', c1', post', q2, q3, q4, q5⟩ := sub_ok hok e2 hl' hu hn
          have hoff : some off = some pre'.length := by
            have : offT t p = some off := hp
            rw [← this, q2]
          simp only [Option.some.injEq] at hoff
          exact ⟨q1, pre', c1', post', hoff, by rw [e1, q3], q4, q5⟩
        · cases hl'
    obtain ⟨k1, pre, c, post, rfl, k3, k4, k5⟩ := key
    refine ⟨k1, b, c, rfl, k4, fun i x hx => ?_, k5⟩
    have hi := (List.getElem?_eq_some_iff.1 hx).1
    refine cell _ x ?_
    rw [k3, List.getElem?_append_right (by omega), Nat.add_sub_cancel_left, List.getElem?_append_left hi]
    exact hx
  | arr e t xs n sh =>
    cases p with
    | nil => cases hu
    | cons j p =>
      obtain ⟨cells, css, h1, h2, rfl, h4, h5⟩ := h
      obtain ⟨x, hx, hl⟩ := opt_ex (show (Pr.opt (xs[j]?) fun x => subD t x p).ex σ = some (r, σ') from hl)
      obtain ⟨pre, c, post, e1, e2, e3⟩ := css_cut h4 h5 hx
      obtain ⟨q0, u', z, k, pre', c1, post', g1, g2, g3, rfl, g5, g6⟩ := subD_ok t hl e3
      have hu' : tyT t p = some u := hu
      rw [hu'] at g2
      simp only [Option.some.injEq] at g2
      subst g2
      subst g1
      have hj : j < xs.length := (List.getElem?_eq_some_iff.1 hx).1
      have hoff : some off = some (j * t.size + k) := by
        have : (if j < xs.length then (offT t p).map (j * t.size + ·) else none) = some off := hp
        rw [← this, if_pos hj, g3]; rfl
      simp only [Option.some.injEq] at hoff
      rcases h1.2 with ⟨_, hn0⟩ | ⟨g, cap, cur, rfl, _⟩
      · omega
      · refine ⟨q0, g, c1, rfl, RD.length u g6, fun i y hy => ?_, (ldV_RV hn g6).1⟩
        have hi := (List.getElem?_eq_some_iff.1 hy).1
        have hcell := h1.cells (g := g) rfl (off + i) y (by
          rw [e1, hoff, ← e2, ← g5]
          rw [List.getElem?_append_right (by omega)]
          have : pre.length + pre'.length + i - pre.length = pre'.length + i := by omega
          rw [this, List.append_assoc, List.getElem?_append_right (by omega), Nat.add_sub_cancel_left, List.append_assoc, List.getElem?_append_left hi]
          exact hy)
        rwa [Addr.add_plain] at hcell
end
end Go.AM
end

section
namespace Go.AM
open RowKit

section
variable {P : Program} {IoS : Nat → Prop} {w0 : World} {X0 : Un} {γ : Id → Value} {S : St} {a : Act} {w : World} {E : Env} {o : Oper} {x : AV} {σ' : Store}

theorem sim_load (hE : EnvOK P E) (hr : Rel P IoS w0 X0 γ S a w) {T : TypeId} {ox : Operand} (ho : o.op = .load T ox) (h : (step E S.f o).ex S.o = some (x, σ')) : Sim P IoS w0 X0 S a w o x σ' := by
  simp only [step, ho] at h
  have hv := hr.opd ox
  split at h
  · rename_i t y hx
    rw [hx] at hv
    split at h
    · rename_i hc
      simp only [Bool.and_eq_true, decide_eq_true_eq, Bool.not_eq_true'] at hc
      obtain ⟨z, hz, h⟩ := opt_ex h
      obtain ⟨rfl, rfl⟩ := ret_ex h
      subst hz
      have hn : ∀ n, t ≠ .opq n := by rintro n rfl; cases hc.2
      obtain ⟨A, d, e1, e2, e3, e4⟩ := ptr_inv (show RV P (.ptr t) w (unst X0 S.o γ) (some z) (a.eval ox) from hv)
      have hl := load_at (hE.ty _ _ hc.1) hn e2 (fun i v hv => (e3 i v hv).1)
      exact Sim.pure hr (v := ldV t d) (by simp [execOp, ho, e1, Instr.loadAt, Instr.sureAddr, hl]) (ldV_RV hn e4).1
    · cases h
  · rename_i i n p hx
    rw [hx] at hv
    obtain ⟨ob, hi, g0⟩ := get_ex h
    clear h
    split at g0
    · rename_i hc
      simp only [Bool.and_eq_true, decide_eq_true_eq] at hc
      obtain ⟨⟨hc1, hc2⟩, hc3⟩ := hc
      obtain ⟨b, off, j1, j2, j3⟩ := ref_ok hv hi hc1
      cases hT : E.ty T with
      | none => rw [hT] at hc3; cases hc3
      | some u =>
        rw [hT] at hc2 hc3
        have hn : ∀ n, u ≠ .opq n := by rintro n rfl; cases hc3
        obtain ⟨rfl, b', c, k1, k2, k3, k4⟩ := loadOb_ok (hr.obs i ob hi) j2 hc2 (hE.ty _ _ hT) hn g0
        rw [j1] at k1
        simp only [Option.some.injEq] at k1
        subst k1
        have hl := load_at (hE.ty _ _ hT) hn k2 k3
        exact Sim.pure hr (v := ldV u c) (by simp [execOp, ho, j3, Instr.loadAt, Instr.sureAddr, hl]) (VR.of1 k4)
    · cases g0
  · cases h

/-! ### New objects -/
theorem grownBy_alloc (w : World) (ob : Obj) : w.grownBy (w.alloc ob) none := by
  refine ⟨rfl, rfl, rfl, by simp, fun b hb _ => ?_⟩
  show (w.heap.push ob)[b]? = w.heap[b]?
  rw [Array.getElem?_push, if_neg (Nat.ne_of_lt hb)]

theorem next_ex {α : Type} {i : Id} {k : Nat → Pr α} {σ σ' : Store} {y : α} (h : (Pr.next i k).ex σ = some (y, σ')) : (k (match σ i with | some b => b.ver + 1 | none => 0)).ex σ = some (y, σ') := h
theorem put_ex {α : Type} {i : Id} {b : Ob} {k : Pr α} {σ σ' : Store} {y : α} (h : (Pr.put i b k).ex σ = some (y, σ')) : k.ex (σ.set i b) = some (y, σ') := h

/-- a new object at 'd', in a new block -/
theorem fresh_turn (hr : Rel P IoS w0 X0 γ S a w) {d : Id} {ob : Ob} {w' : World} {v' : Value} (hw : w.grownBy w' none) (hb : ∀ b, baseOf v' = some b → w.heap.size ≤ b ∧ b < w'.heap.size) (hver : ob.ver = match S.o d with | some b => b.ver + 1 | none => 0) :
    Turn P X0 γ S.o w d ob v' w' where
  row := ⟨none, hw, fun b hb => by cases hb⟩
  ver := by
    intro ob0 h0
    rw [h0] at hver
    simp only at hver
    exact ⟨by omega, fun e => by omega⟩
  base := fun b hb' => ⟨.inr (hb b hb').1, (hb b hb').2⟩
  un := fun b k hb' hlt => by have := (hb b hb').1; omega
  cell := by
    intro ob0 b k h0 h1 _
    exact World.cell?_of_block (hw.block b (hr.base_lt h0 h1) (by simp))

theorem Sim.turn (hr : Rel P IoS w0 X0 γ S a w) {d : Id} {ob : Ob} {v' : Value} {w' : World} (t : Turn P X0 γ S.o w d ob v' w') {v : Value} (h1 : (execOp a.eval o).run P w = .ok (.value v) w' ∨ (v = undef ∧ (execOp a.eval o).run P w = .ok .skip w'))
    (hob : OR P w' (unst X0 (S.o.set d ob) (upd1 γ d v')) (S.o.set d ob) (upd1 γ d v') ob v') (h2 : VR P w' (unst X0 (S.o.set d ob) (upd1 γ d v')) (S.o.set d ob) (upd1 γ d v') x v) : Sim P IoS w0 X0 S a w o x (S.o.set d ob) :=
  ⟨v, w', upd1 γ d v', h1, t.rel hr hob, h2⟩

theorem zeroAV_VC {t : Ty} {cs : List Value} {X : Un} {o : Store} (h : zc t cs) : VC P w X o γ (zeroAV t) cs ∧ okF t (zeroAV t) = true := by
  cases t with
  | slice t =>
    rw [show cs = [.slice none 0 0] from h]
    exact ⟨rfl, rfl⟩
  | _ => exact ⟨zc_RD _ h, by simp [zeroAV, okF]⟩

theorem zeros_VCs : (b : Ty) → ∀ {l : List Field} {k : Nat} {cs : List Value} {X : Un} {o : Store}, FsOK P b l k → zc b cs → VCs P w X o γ (zeros b) cs ∧ (zeros b).length = b.len ∧ ∀ (i : Nat) (x : AV) (a : Ty), (zeros b)[i]? = some x → nthTy b i = some a → okF a x = true
  | .unit, l, k, cs, X, o, hf, h => ⟨h, rfl, fun i x a hx => by simp [zeros] at hx⟩
  | .pair a b, l, k, cs, X, o, hf, h => by
    obtain ⟨f, l', rfl, _, h5⟩ := hf
    obtain ⟨c1, c2, rfl, h1, h2⟩ := h
    obtain ⟨g1, g2⟩ := zeroAV_VC (P := P) (w := w) (γ := γ) (X := X) (o := o) h1
    obtain ⟨k1, k2, k3⟩ := zeros_VCs b (X := X) (o := o) h5 h2
    refine ⟨⟨c1, c2, rfl, g1, k1⟩, by simp [zeros, Ty.len, k2], fun i x u hx hu => ?_⟩
    cases i with
    | zero =>
      have e1 : zeroAV a = x := by simpa [zeros] using hx
      have e2 : some a = some u := hu
      simp only [Option.some.injEq] at e2
      subst e1; subst e2
      exact g2
    | succ i => exact k3 i x u (by simpa [zeros] using hx) hu
  | .int _, _, _, _, _, _, h, _ => h.elim
  | .bool, _, _, _, _, _, h, _ => h.elim
  | .str, _, _, _, _, _, h, _ => h.elim
  | .arr _ _, _, _, _, _, _, h, _ => h.elim
  | .slice _, _, _, _, _, _, h, _ => h.elim
  | .ptr _, _, _, _, _, _, h, _ => h.elim
  | .nilI, _, _, _, _, _, h, _ => h.elim
  | .alt _ _ _, _, _, _, _, _, h, _ => h.elim
  | .fn _ _ _, _, _, _, _, _, h, _ => h.elim
  | .opq _, _, _, _, _, _, h, _ => h.elim

theorem baseOf_at {b b' : Nat} (h : baseOf (.pointer (some ⟨b, 0, none⟩)) = some b') : b = b' := by simpa [baseOf] using h

theorem alloc_last (w : World) (cells : Array Value) (T : TypeId) : (w.alloc (.cells cells T)).heap[w.heap.size]? = some (.cells cells T (0, 0)) := by
  show (w.heap.push _)[w.heap.size]? = _
  simp

/-- a new variable -/
theorem newBox (hr : Rel P IoS w0 X0 γ S a w) {d : Id} {T : TypeId} {t : Ty} {fs : List AV} {cells : Array Value} {n : Nat} {sh : Bool} (hver : n = match S.o d with | some b => b.ver + 1 | none => 0)
    (hlen : fs.length = (if t.cmp then t.len else 1)) (hok : ∀ (i : Nat) (x : AV) (a : Ty), fs[i]? = some x → (if t.cmp then nthTy t i else some t) = some a → okF a x = true)
    (hvs : ∀ (w' : World) (X' : Un) (o' : Store) (γ' : Id → Value), Ext w (unst X0 S.o γ) S.o γ w' X' o' γ' → VCs P w' X' o' γ' fs cells.toList)
    (hrun : (execOp a.eval o).run P w = .ok (.value (.pointer (some ⟨w.heap.size, 0, none⟩))) (w.alloc (.cells cells T))) : Sim P IoS w0 X0 S a w o (.ref d n []) (S.o.set d (.box t fs n sh)) := by
  have t1 : Turn P X0 γ S.o w d (.box t fs n sh) (.pointer (some ⟨w.heap.size, 0, none⟩)) (w.alloc (.cells cells T)) :=
    fresh_turn hr (grownBy_alloc w _) (fun b hb => by have := baseOf_at hb; simp; omega) hver
  refine Sim.turn hr t1 (.inl hrun) ?_ ?_
  · exact ⟨w.heap.size, cells, T, rfl, alloc_last w cells T, hlen, hok, hvs _ _ _ _ (t1.ext hr)⟩
  · exact ⟨.box t fs n sh, _, by simp [Store.set_get], ⟨Nat.le_refl _, rfl⟩, rfl, fun _ => ⟨w.heap.size, 0, by simp [upd1, baseOf], offT_nil t, rfl⟩⟩

theorem sim_alloc (hE : EnvOK P E) (hr : Rel P IoS w0 X0 γ S a w) {T : TypeId} (ho : o.op = .alloc T) (h : (step E S.f o).ex S.o = some (x, σ')) : Sim P IoS w0 X0 S a w o x σ' := by
  simp only [step, ho] at h
  split at h
  · rename_i t hT
    have h1 := next_ex h
    have h2 := put_ex h1
    obtain ⟨rfl, rfl⟩ := ret_ex h2
    obtain ⟨i, z, i1, i2, i3, i4, i5⟩ := (hE.ty _ _ hT).tok
    have hrun : (execOp a.eval o).run P w = .ok (.value (.pointer (some ⟨w.heap.size, 0, none⟩))) (w.alloc (.cells z.cells T)) := by
      simp [execOp, ho, Instr.alloc, zeroValue, typeInfo, i1, i3, newVar, newRow]
    cases hc : t.cmp with
    | true =>
      simp only [if_true]
      obtain ⟨l, _, hf⟩ := (hE.ty _ _ hT).fields hc
      obtain ⟨_, q2, q3⟩ := zeros_VCs (P := P) (w := w) (γ := γ) (X := X0) (o := S.o) t hf i5
      exact newBox hr rfl (by simp [hc, q2]) (fun i x a hx ha => q3 i x a hx (by simpa [hc] using ha)) (fun w' X' o' γ' _ => (zeros_VCs t hf i5).1) hrun
    | false =>
      simp only [Bool.false_eq_true, if_false]
      refine newBox hr rfl (by simp [hc]) (fun i x a hx ha => ?_) (fun w' X' o' γ' _ => ⟨z.cells.toList, [], by simp, (zeroAV_VC i5).1, rfl⟩) hrun
      cases i with
      | zero =>
        simp [hc] at hx ha
        subst hx; subst ha
        exact (zeroAV_VC (P := P) (w := w) (γ := γ) (X := X0) (o := S.o) i5).2
      | succ i => simp at hx
  · cases h

/-! ### A value as the content of a variable -/
theorem norm_inv {a : Ty} {y z : AV} (h : norm a y = some z) : (∃ l q, y = .agg l ∧ AV.as a (.agg l) = some q ∧ z = .v a q) ∨ (okF a y = true ∧ z = y) := by
  cases y with
  | agg l =>
    obtain ⟨q, hq, rfl⟩ := Option.map_eq_some_iff.1 (show (AV.as a (.agg l)).map (AV.v a) = some z from h)
    exact .inl ⟨l, q, rfl, hq, rfl⟩
  | _ =>
    refine .inr ?_
    unfold norm at h
    simp only at h
    split at h
    · rename_i hok
      simp only [Option.some.injEq] at h
      exact ⟨hok, h.symm⟩
    · cases h

theorem VR_VC {X : Un} {o : Store} {a : Ty} {y : AV} {val : Value} (ho : okF a y = true) (hv : VR P w X o γ y val) : VC P w X o γ y val.cells.toList := by
  cases y with
  | v t x => exact hv.2
  | lit c => rw [show val = c from hv]; exact rfl
  | own i n =>
    obtain ⟨ob, v, g1, g2, g3, g4⟩ := hv
    simp only [List.cons.injEq, and_true] at g3
    subst g3
    have hcell : val.cells = #[val] := by have := g2.2; cases val <;> first | rfl | simp [Value.oneCell'] at this
    exact ⟨ob, val, g1, g2, by simp [hcell], g4⟩
  | ref i n p =>
    obtain ⟨ob, v, g1, g2, g3, g4⟩ := hv
    simp only [List.cons.injEq, and_true] at g3
    subst g3
    have hcell : val.cells = #[val] := by have := g2.2; cases val <;> first | rfl | simp [Value.oneCell'] at this
    exact ⟨ob, val, g1, g2, by simp [hcell], g4⟩
  | fnc f =>
    have hv' : [val] = [Value.func (.func f) #[] #[]] := hv
    simp only [List.cons.injEq, and_true] at hv'
    subst hv'
    exact rfl
  | agg l => cases ho
  | tup l => cases ho
  | undef => cases ho

theorem norm_ok {X : Un} {o : Store} {a : Ty} {y z : AV} {val : Value} (h : norm a y = some z) (hv : VR P w X o γ y val) : okF a z = true ∧ VC P w X o γ z val.cells.toList := by
  rcases norm_inv h with ⟨l, q, rfl, hq, rfl⟩ | ⟨hok, rfl⟩
  · exact ⟨by simp [okF], (as_VR hq hv).2⟩
  · exact ⟨hok, VR_VC hok hv⟩

theorem norm_VC {X : Un} {o : Store} {a : Ty} {y z : AV} {c : List Value} (h : norm a y = some z) (hv : VC P w X o γ y c) : okF a z = true ∧ VC P w X o γ z c := by
  rcases norm_inv h with ⟨l, q, rfl, hq, rfl⟩ | ⟨hok, rfl⟩
  · exact ⟨by simp [okF], as_VC _ hq hv⟩
  · exact ⟨hok, hv⟩

/-- the fields, normal -/
structure FsV (P : Program) (w : World) (X : Un) (o : Store) (γ : Id → Value) (t : Ty) (gs : List AV) (cs : List Value) : Prop where
  vs : VCs P w X o γ gs cs
  len : gs.length = t.len
  ok : ∀ (i : Nat) (x : AV) (a : Ty), gs[i]? = some x → nthTy t i = some a → okF a x = true

theorem FsV.cons {X : Un} {o : Store} {a b : Ty} {z : AV} {gs : List AV} {c1 c2 : List Value} (h1 : VC P w X o γ z c1) (h2 : okF a z = true) (h : FsV P w X o γ b gs c2) : FsV P w X o γ (.pair a b) (z :: gs) (c1 ++ c2) where
  vs := ⟨c1, c2, rfl, h1, h.vs⟩
  len := by simp [Ty.len, h.len]
  ok := by
    intro i x u hx hu
    cases i with
    | zero =>
      have e1 : z = x := by simpa using hx
      have e2 : some a = some u := hu
      simp only [Option.some.injEq] at e2
      subst e1; subst e2
      exact h2
    | succ i => exact h.ok i x u (by simpa using hx) hu

theorem normL_ok {X : Un} {o : Store} : (t : Ty) → ∀ {l gs : List AV} {cs : List Value}, normL t l = some gs → VCs P w X o γ l cs → FsV P w X o γ t gs cs
  | .unit, l, gs, cs, h, hv => by
    cases l with
    | nil =>
      have h' : some ([] : List AV) = some gs := h
      simp only [Option.some.injEq] at h'
      subst h'
      exact ⟨hv, rfl, fun i x a hx => by simp at hx⟩
    | cons => cases h
  | .pair a b, l, gs, cs, h, hv => by
    cases l with
    | nil => cases h
    | cons x l =>
      obtain ⟨c1, c2, rfl, h1, h2⟩ := hv
      obtain ⟨z, hz, h'⟩ := Option.bind_eq_some_iff.1 (show ((norm a x).bind fun y => (normL b l).map fun l => y :: l) = some gs from h)
      obtain ⟨gs', hg, rfl⟩ := Option.map_eq_some_iff.1 h'
      obtain ⟨k1, k2⟩ := norm_VC hz h1
      exact (normL_ok b hg h2).cons k2 k1
  | .int _, _, _, _, h, _ => by cases h
  | .bool, _, _, _, h, _ => by cases h
  | .str, _, _, _, h, _ => by cases h
  | .arr _ _, _, _, _, h, _ => by cases h
  | .slice _, _, _, _, h, _ => by cases h
  | .ptr _, _, _, _, h, _ => by cases h
  | .nilI, _, _, _, h, _ => by cases h
  | .alt _ _ _, _, _, _, h, _ => by cases h
  | .fn _ _ _, _, _, _, h, _ => by cases h
  | .opq _, _, _, _, h, _ => by cases h

theorem unpack_FsV {X : Un} {o : Store} : (b : Ty) → ∀ {l : List Field} {k : Nat} {x : Den b} {cs : List Value}, FsOK P b l k → RD P b w X x cs → FsV P w X o γ b (unpack b x) cs
  | .unit, l, k, x, cs, hf, hr => ⟨hr, rfl, fun i x a hx => by simp [unpack] at hx⟩
  | .pair a b, l, k, x, cs, hf, hr => by
    obtain ⟨f, l', rfl, _, h5⟩ := hf
    obtain ⟨c1, c2, rfl, r1, r2⟩ := hr
    exact (unpack_FsV b h5 r2).cons r1 (by simp [okF])
  | .int _, _, _, _, _, h, _ => h.elim
  | .bool, _, _, _, _, h, _ => h.elim
  | .str, _, _, _, _, h, _ => h.elim
  | .arr _ _, _, _, _, _, h, _ => h.elim
  | .slice _, _, _, _, _, h, _ => h.elim
  | .ptr _, _, _, _, _, h, _ => h.elim
  | .nilI, _, _, _, _, h, _ => h.elim
  | .alt _ _ _, _, _, _, _, h, _ => h.elim
  | .fn _ _ _, _, _, _, _, h, _ => h.elim
  | .opq _, _, _, _, _, h, _ => h.elim

/-- what a box has as content -/
structure BoxV (P : Program) (w : World) (X : Un) (o : Store) (γ : Id → Value) (t : Ty) (gs : List AV) (cs : List Value) : Prop where
  vs : VCs P w X o γ gs cs
  len : gs.length = (if t.cmp then t.len else 1)
  ok : ∀ (i : Nat) (x : AV) (a : Ty), gs[i]? = some x → (if t.cmp then nthTy t i else some t) = some a → okF a x = true
theorem BoxV.mono {X X' : Un} {o o' : Store} {γ' : Id → Value} {w' : World} {t : Ty} {gs : List AV} {cs : List Value} (h : BoxV P w X o γ t gs cs) (e : Ext w X o γ w' X' o' γ') : BoxV P w' X' o' γ' t gs cs :=
  ⟨h.vs.mono _ e, h.len, h.ok⟩

theorem fieldsN_ok {X : Un} {o : Store} {t : Ty} {T : TypeId} {y : AV} {gs : List AV} {val : Value} (hT : TyOK P t T) (h : fieldsN t y = some gs) (hv : VR P w X o γ y val) : BoxV P w X o γ t gs val.cells.toList := by
  unfold fieldsN at h
  cases hc : t.cmp with
  | true =>
    rw [if_pos hc] at h
    have key : FsV P w X o γ t gs val.cells.toList := by
      split at h
      · rename_i l
        obtain ⟨cs, rfl, h2⟩ := hv
        exact normL_ok t h h2
      · rename_i t' x
        split at h
        · rename_i e
          subst e
          simp only [Option.some.injEq] at h
          subst h
          obtain ⟨fs, _, hf⟩ := hT.fields hc
          exact unpack_FsV t' hf hv.2
        · cases h
      · cases h
    exact ⟨key.vs, by simp [hc, key.len], fun i x a hx ha => key.ok i x a hx (by simpa [hc] using ha)⟩
  | false =>
    rw [if_neg (by simp [hc])] at h
    obtain ⟨z, hz, rfl⟩ := Option.map_eq_some_iff.1 h
    obtain ⟨k1, k2⟩ := norm_ok hz hv
    refine ⟨⟨val.cells.toList, [], by simp, k2, rfl⟩, by simp [hc], fun i x a hx ha => ?_⟩
    cases i with
    | zero => simp [hc] at hx ha; subst hx; subst ha; exact k1
    | succ i => simp at hx

theorem BoxV.size {X : Un} {o : Store} {t : Ty} {T : TypeId} {gs : List AV} {cs : List Value} (h : BoxV P w X o γ t gs cs) (hT : TyOK P t T) : cs.length = t.size := by
  obtain ⟨h1, h2, h3⟩ := h
  cases hc : t.cmp with
  | true =>
    rw [hc] at h2 h3
    obtain ⟨fs, _, hf⟩ := hT.fields hc
    exact VCs_len t hf h2 h3 h1
  | false =>
    rw [hc] at h2 h3
    match gs, h2, h3, h1 with
    | [x], _, h3, ⟨c1, c2, e, h1, h4⟩ =>
      have : c2 = [] := h4
      subst this
      rw [e, List.append_nil]
      exact VC_length (h3 0 x t rfl rfl) h1

theorem sim_box (hE : EnvOK P E) (hr : Rel P IoS w0 X0 γ S a w) {T : TypeId} {ox : Operand} (ho : o.op = .box T ox) (h : (step E S.f o).ex S.o = some (x, σ')) : Sim P IoS w0 X0 S a w o x σ' := by
  simp only [step, ho] at h
  split at h
  · rename_i t hT
    obtain ⟨gs, hg, h⟩ := opt_ex h
    have h1 := next_ex h
    have h2 := put_ex h1
    obtain ⟨rfl, rfl⟩ := ret_ex h2
    have hb := fieldsN_ok (hE.ty _ _ hT) hg (hr.opd ox)
    exact newBox hr (cells := (a.eval ox).cells) (T := T) rfl hb.len hb.ok (fun w' X' o' γ' e => (hb.mono e).vs) (by simp [execOp, ho, Instr.box, newVar, newRow])
  · cases h
end
end Go.AM
end

section
namespace Go.AM
open RowKit

section
variable {P : Program} {w : World} {X : Un} {E : Env} {o : Store} {γ : Id → Value}

theorem css_set {t : Ty} {xs : List (Den t)} {css : List (List Value)} {j : Nat} {x : Den t} (hl : css.length = xs.length) (h : ∀ (i : Nat) (x : Den t) (d : List Value), xs[i]? = some x → css[i]? = some d → RD P t w X x d) (hx : xs[j]? = some x) :
    ∃ pre c post, css.flatten = pre ++ (c ++ post) ∧ pre.length = j * t.size ∧ RD P t w X x c ∧
      ∀ (z : Den t) (d : List Value), RD P t w X z d → ∃ css' : List (List Value), css'.flatten = pre ++ (d ++ post) ∧ css'.length = (xs.set j z).length ∧
        ∀ (i : Nat) (x : Den t) (d : List Value), (xs.set j z)[i]? = some x → css'[i]? = some d → RD P t w X x d := by
  have hlen := css_len hl h
  have hj : j < css.length := by rw [hl]; exact (List.getElem?_eq_some_iff.1 hx).1
  have e : css = css.take j ++ css[j] :: css.drop (j + 1) := by rw [← List.drop_eq_getElem_cons hj, List.take_append_drop]
  refine ⟨(css.take j).flatten, css[j], (css.drop (j + 1)).flatten, ?_, ?_, h j x _ hx (List.getElem?_eq_getElem hj), ?_⟩
  · have := congrArg List.flatten e
    simpa only [List.flatten_append, List.flatten_cons] using this
  · rw [sum_const (n := t.size) (fun d hd => hlen d (List.mem_of_mem_take hd))]
    rw [List.length_take, Nat.min_eq_left (by omega)]
  · intro z d hz
    have e' : css.set j d = css.take j ++ d :: css.drop (j + 1) := by rw [List.set_eq_take_append_cons_drop, if_pos hj]
    refine ⟨css.set j d, ?_, by simp [hl], fun i x' d' hx' hd' => ?_⟩
    · rw [e']; simp
    · rw [List.getElem?_set] at hx' hd'
      by_cases hij : j = i
      · subst hij
        have hj' : j < xs.length := by omega
        simp [hj'] at hx'
        simp [hj] at hd'
        subst hx'; subst hd'
        exact hz
      · simp only [if_neg hij] at hx' hd'
        exact h i x' d' hx' hd'

theorem arr_set {n : Nat} {t : Ty} {xs : List (Den t)} {cs : List Value} {j : Nat} {x : Den t} (h : RD P (.arr n t) w X xs cs) (hx : xs[j]? = some x) :
    ∃ pre c post, cs = pre ++ (c ++ post) ∧ pre.length = j * t.size ∧ RD P t w X x c ∧ ∀ (z : Den t) (d : List Value), RD P t w X z d → RD P (.arr n t) w X (xs.set j z : List (Den t)) (pre ++ (d ++ post)) := by
  obtain ⟨h0, css, rfl, h1, h2⟩ := h
  obtain ⟨pre, c, post, g1, g2, g3, g4⟩ := css_set (h1.trans h0.symm) h2 hx
  refine ⟨pre, c, post, g1, g2, g3, fun z d hz => ?_⟩
  obtain ⟨css', k1, k2, k3⟩ := g4 z d hz
  have hsl : (xs.set j z).length = n := by rw [List.length_set]; exact h0
  exact ⟨hsl, css', k1.symm, k2.trans hsl, k3⟩

theorem setP_ok : (t : Ty) → ∀ {x z : Den t} {p : List Nat} {y : AV} {val : Value} {c : List Value} {σ σ' : Store}, (setP t x p y).ex σ = some (z, σ') → RD P t w X x c → VR P w X o γ y val →
    σ = σ' ∧ ∃ pre c1 post u, tyT t p = some u ∧ offT t p = some pre.length ∧ c = pre ++ (c1 ++ post) ∧ c1.length = u.size ∧ val.cells.toList.length = u.size ∧ (∀ v ∈ val.cells.toList, v.oneCell' = true) ∧ RD P t w X z (pre ++ (val.cells.toList ++ post)) := by
  have base : ∀ (t : Ty) {x z : Den t} {y : AV} {val : Value} {c : List Value} {σ σ' : Store}, (Pr.opt (y.as t) Pr.ret).ex σ = some (z, σ') → RD P t w X x c → VR P w X o γ y val →
      σ = σ' ∧ ∃ pre c1 post u, tyT t [] = some u ∧ offT t [] = some pre.length ∧ c = pre ++ (c1 ++ post) ∧ c1.length = u.size ∧ val.cells.toList.length = u.size ∧ (∀ v ∈ val.cells.toList, v.oneCell' = true) ∧ RD P t w X z (pre ++ (val.cells.toList ++ post)) := by
    intro t x z y val c σ σ' h hr hv
    obtain ⟨q, hq, h⟩ := opt_ex h
    obtain ⟨rfl, e⟩ := ret_ex h
    have := (as_VR hq hv).2
    exact ⟨e, [], c, [], t, tyT_nil t, offT_nil t, by simp, RD.length t hr, RD.length t this, RD.one t this, by simpa using this⟩
  intro t
  induction t with
  | pair a b iha ihb =>
    intro x z p y val c σ σ' h hr hv
    cases p with
    | nil => exact base _ h hr hv
    | cons j p =>
      obtain ⟨c1, c2, rfl, r1, r2⟩ := hr
      cases j with
      | zero =>
        obtain ⟨q, σ1, h1, h2⟩ := Pr.ex_bind_some (show ((setP a x.1 p y).bind fun z => .ret (z, x.2)).ex σ = some (z, σ') from h)
        obtain ⟨rfl, rfl⟩ := ret_ex h2
        obtain ⟨e, pre, c1', post, u, g1, g2, rfl, g4, g5, g6, g7⟩ := iha h1 r1 hv
        exact ⟨e, pre, c1', post ++ c2, u, g1, g2, by simp, g4, g5, g6, pre ++ (val.cells.toList ++ post), c2, by simp, g7, r2⟩
      | succ j =>
        obtain ⟨q, σ1, h1, h2⟩ := Pr.ex_bind_some (show ((setP b x.2 (j :: p) y).bind fun z => .ret (x.1, z)).ex σ = some (z, σ') from h)
        obtain ⟨rfl, rfl⟩ := ret_ex h2
        obtain ⟨e, pre, c1', post, u, g1, g2, rfl, g4, g5, g6, g7⟩ := ihb h1 r2 hv
        refine ⟨e, c1 ++ pre, c1', post, u, g1, ?_, by simp, g4, g5, g6, c1, pre ++ (val.cells.toList ++ post), by simp, r1, g7⟩
        show (offT b (j :: p)).map (a.size + ·) = _
        rw [g2, List.length_append, RD.length a r1]; rfl
  | arr n t ih =>
    intro x z p y val c σ σ' h hr hv
    cases p with
    | nil => exact base _ h hr hv
    | cons j p =>
      obtain ⟨x0, hx, h⟩ := opt_ex (show (Pr.opt ((x : List (Den t))[j]?) fun x0 => (setP t x0 p y).bind fun z => .ret (List.set (x : List (Den t)) j z)).ex σ = some (z, σ') from h)
      obtain ⟨q, σ1, h1, h2⟩ := Pr.ex_bind_some h
      obtain ⟨rfl, rfl⟩ := ret_ex h2
      obtain ⟨pr, c0, po, rfl, k2, k3, k4⟩ := arr_set hr hx
      obtain ⟨e, pre, c1', post, u, g1, g2, rfl, g4, g5, g6, g7⟩ := ih h1 k3 hv
      have hj : j < n := by
        have := (List.getElem?_eq_some_iff.1 hx).1
        have h0 : (x : List (Den t)).length = n := hr.1
        omega
      refine ⟨e, pr ++ pre, c1', post ++ po, u, g1, ?_, by simp, g4, g5, g6, ?_⟩
      · show (if j < n then (offT t p).map (j * t.size + ·) else none) = _
        rw [if_pos hj, g2, List.length_append, k2]; rfl
      · have := k4 _ _ g7
        simpa using this
  | _ =>
    intro x z p y val c σ σ' h hr hv
    cases p with
    | nil => exact base _ h hr hv
    | cons j p => cases h

theorem VC_one {a : Ty} {x : AV} {c : List Value} (ho : okF a x = true) (h : VC P w X o γ x c) : ∀ v ∈ c, v.oneCell' = true := by
  cases x with
  | v t y => exact RD.one t h
  | lit l =>
    obtain ⟨h1, h2, h3, h4⟩ := litAs_one a (show (litAs a l).isSome = true from ho)
    rw [show c = l.cells.toList from h, h2]
    simpa using h3
  | own i n => obtain ⟨ob, val, _, g, rfl, _⟩ := h; simpa using g.2
  | ref i n p => obtain ⟨ob, val, _, g, rfl, _⟩ := h; simpa using g.2
  | fnc f => rw [show c = [.func (.func f) #[] #[]] from h]; simp [Value.oneCell']
  | agg l => cases ho
  | tup l => cases ho
  | undef => cases ho

theorem VCs_one : ∀ {fs : List AV} {cs : List Value}, (∀ x ∈ fs, ∃ a, okF a x = true) → VCs P w X o γ fs cs → ∀ v ∈ cs, v.oneCell' = true
  | [], cs, _, h => by rw [show cs = [] from h]; simp
  | x :: fs, cs, hok, h => by
    obtain ⟨c1, c2, rfl, h1, h2⟩ := h
    obtain ⟨a, ha⟩ := hok x (List.mem_cons_self ..)
    intro v hv
    rcases List.mem_append.1 hv with hv | hv
    · exact VC_one ha h1 v hv
    · exact VCs_one (fun x hx => hok x (List.mem_cons_of_mem _ hx)) h2 v hv

theorem BoxV.one {t : Ty} {gs : List AV} {cs : List Value} (h : BoxV P w X o γ t gs cs) : ∀ v ∈ cs, v.oneCell' = true := by
  refine VCs_one (fun x hx => ?_) h.vs
  obtain ⟨i, hi, rfl⟩ := List.getElem_of_mem hx
  cases hc : t.cmp with
  | true =>
    have hl := h.len
    rw [hc] at hl
    obtain ⟨a, ha⟩ := nth_some t (j := i) (by simp only [if_true] at hl; omega)
    exact ⟨a, h.ok i _ a (List.getElem?_eq_getElem hi) (by simp [hc, ha])⟩
  | false => exact ⟨t, h.ok i _ t (List.getElem?_eq_getElem hi) (by simp [hc])⟩

/-- one field gets another content -/
theorem storeF_ok {a : Ty} {x z : AV} {p : List Nat} {y : AV} {val : Value} {c : List Value} {σ σ' : Store} (ho : okF a x = true) (h : (storeF a x p y).ex σ = some (z, σ')) (hx : VC P w X o γ x c) (hv : VR P w X o γ y val) :
    σ = σ' ∧ ∃ pre c1 post u, tyT a p = some u ∧ offT a p = some pre.length ∧ c = pre ++ (c1 ++ post) ∧ c1.length = u.size ∧ val.cells.toList.length = u.size ∧ (∀ v ∈ val.cells.toList, v.oneCell' = true) ∧ okF a z = true ∧ VC P w X o γ z (pre ++ (val.cells.toList ++ post)) := by
  cases p with
  | nil =>
    obtain ⟨q, hq, h⟩ := opt_ex (show (Pr.opt (norm a y) Pr.ret).ex σ = some (z, σ') by cases x <;> exact h)
    obtain ⟨rfl, e⟩ := ret_ex h
    obtain ⟨k1, k2⟩ := norm_ok hq hv
    exact ⟨e, [], c, [], a, tyT_nil a, offT_nil a, by simp, VC_length ho hx, VC_length k1 k2, VC_one k1 k2, k1, by simpa using k2⟩
  | cons j p =>
    cases x with
    | v a' x =>
      have h' : (if a' = a then (setP a' x (j :: p) y).bind fun z => .ret (.v a' z) else Pr.fail).ex σ = some (z, σ') := h
      split at h'
      · rename_i e
        subst e
        obtain ⟨q, σ1, h1, h2⟩ := Pr.ex_bind_some h'
        obtain ⟨rfl, rfl⟩ := ret_ex h2
        obtain ⟨e, pre, c1, post, u, g1, g2, g3, g4, g5, g6, g7⟩ := setP_ok a' h1 hx hv
        exact ⟨e, pre, c1, post, u, g1, g2, g3, g4, g5, g6, by simp [okF], g7⟩
      · cases h'
    | _ => cases h

theorem storeFs_ok {t : Ty} {fs gs : List AV} {p : List Nat} {y : AV} {val : Value} {cs : List Value} {σ σ' : Store} {u : Ty} {T : TypeId} (hu : tyT t p = some u) (hT : TyOK P u T) (hb : BoxV P w X o γ t fs cs) (hsz : p = [] → cs.length = t.size)
    (h : (storeFs t fs p y).ex σ = some (gs, σ')) (hv : VR P w X o γ y val) :
    σ = σ' ∧ ∃ pre c1 post, offT t p = some pre.length ∧ cs = pre ++ (c1 ++ post) ∧ c1.length = u.size ∧ val.cells.toList.length = u.size ∧ (∀ v ∈ val.cells.toList, v.oneCell' = true) ∧ BoxV P w X o γ t gs (pre ++ (val.cells.toList ++ post)) := by
  cases p with
  | nil =>
    rw [tyT_nil] at hu
    simp only [Option.some.injEq] at hu
    subst hu
    obtain ⟨q, hq, h⟩ := opt_ex (show (Pr.opt (fieldsN t y) Pr.ret).ex σ = some (gs, σ') from h)
    obtain ⟨rfl, e⟩ := ret_ex h
    have hn := fieldsN_ok hT hq hv
    exact ⟨e, [], cs, [], offT_nil t, by simp, hsz rfl, hn.size hT, hn.one, by simpa using hn⟩
  | cons j p =>
    have h' : (if t.cmp then .opt (nthTy t j) fun a => .opt fs[j]? fun x => (storeF a x p y).bind fun z => .ret (fs.set j z) else store1 t fs (j :: p) y).ex σ = some (gs, σ') := h
    obtain ⟨b1, b2, b3⟩ := hb
    cases hc : t.cmp with
    | true =>
      rw [hc] at h' b2 b3
      simp only [if_true] at h' b2 b3
      obtain ⟨a, ha, h'⟩ := opt_ex h'
      obtain ⟨x, hx, h'⟩ := opt_ex h'
      obtain ⟨z, σ1, h1, h2⟩ := Pr.ex_bind_some h'
      obtain ⟨rfl, rfl⟩ := ret_ex h2
      obtain ⟨pre, c, post, rfl, e2, e3, e4, e5⟩ := VCs_split t b3 b1 hx ha
      obtain ⟨e, pre', c1, post', u', g1, g2, rfl, g4, g5, g6, g7, g8⟩ := storeF_ok e4 h1 e2 hv
      have hta := nthTy_tyT t ha
      obtain ⟨k1, k2⟩ := off_append t (p := [j]) (q := p) hta e3
      have hu' : some u' = some u := by rw [← g1, ← hu]; exact k1.symm
      simp only [Option.some.injEq] at hu'
      subst hu'
      have hvs := e5 z (pre' ++ (val.cells.toList ++ post')) w X o γ b1 g8 (by simp only [List.length_append]; omega)
      refine ⟨e, pre ++ pre', c1, post' ++ post, ?_, by simp, g4, g5, g6, ⟨by simpa using hvs, by simp [hc, b2], fun i y' a' hy ha' => ?_⟩⟩
      · have : offT t ([j] ++ p) = offT t (j :: p) := rfl
        rw [← this, k2, g2, List.length_append]; rfl
      · have ha'' : nthTy t i = some a' := by simpa [hc] using ha'
        rw [List.getElem?_set] at hy
        by_cases hij : j = i
        · subst hij
          have hjl := (List.getElem?_eq_some_iff.1 hx).1
          simp [hjl] at hy
          subst hy
          rw [ha] at ha''
          simp only [Option.some.injEq] at ha''
          subst ha''
          exact g7
        · simp only [if_neg hij] at hy
          exact b3 i y' a' hy ha''
    | false =>
      rw [hc] at h' b2 b3
      simp only [Bool.false_eq_true, if_false] at h' b2 b3
      unfold store1 at h'
      split at h'
      · rename_i _ _ _ t' x
        split at h'
        · rename_i e
          subst e
          obtain ⟨z, σ1, h1, h2⟩ := Pr.ex_bind_some h'
          obtain ⟨rfl, rfl⟩ := ret_ex h2
          obtain ⟨c1, c2, e1, e2, e3⟩ := b1
          have : c2 = [] := e3
          subst this
          rw [List.append_nil] at e1
          subst e1
          obtain ⟨e, pre, c1', post, u', g1, g2, g3, g4, g5, g6, g7⟩ := setP_ok t' h1 e2 hv
          rw [hu] at g1
          simp only [Option.some.injEq] at g1
          subst g1
          refine ⟨e, pre, c1', post, g2, g3, g4, g5, g6, ⟨⟨_, [], (List.append_nil _).symm, g7, rfl⟩, by simp [hc], fun i y' a' hy ha' => ?_⟩⟩
          cases i with
          | zero => simp [hc] at hy ha'; subst hy; subst ha'; simp [okF]
          | succ i => simp at hy
        · cases h'
      · cases h'

theorem store_run {u : Ty} {T : TypeId} (hT : TyOK P u T) {g : Nat} {cur : Array Value} {T' : TypeId} {pre c1 post : List Value} {val : Value} (hg : w.heap[g]? = some (.cells cur T' (0, 0))) (hc : cur.toList = pre ++ (c1 ++ post)) (h1 : c1.length = u.size)
    (h2 : val.cells.toList.length = u.size) (h3 : ∀ v ∈ val.cells.toList, v.oneCell' = true) : (storeVar T ⟨g, pre.length, none⟩ val).run P w = .ok () (w.setRow g (pre ++ (val.cells.toList ++ post)).toArray) := by
  have hl : cur.size = pre.length + (c1.length + post.length) := by rw [← Array.length_toList, hc]; simp
  have := run_storeCells_at (P := P) g pre.length T' val.cells.toList 0 cur w hg (by omega) h3
  have e1 : cur.toList.take (pre.length + 0) = pre := by rw [hc]; simp
  have e2 : cur.toList.drop (pre.length + 0 + val.cells.toList.length) = post := by
    rw [hc, h2, ← h1, ← List.append_assoc]
    have : pre.length + 0 + c1.length = (pre ++ c1).length := by simp
    rw [this, List.drop_left]
  rw [e1, e2, List.append_assoc] at this
  have hs : val.cells.size = u.size := by rw [← Array.length_toList]; exact h2
  simp only [storeVar, Sem.run_bind, hT.run_size, Result.andThen_ok, hs, ne_eq, not_true_eq_false, if_false]
  simpa using this

theorem grownBy_setRow (w : World) (g : Nat) (cs : Array Value) : w.grownBy (w.setRow g cs) (some g) :=
  ⟨rfl, rfl, rfl, by simp, fun b hb hne => setRow_other w g b cs (fun e => hne (by rw [e]))⟩
end

section
variable {P : Program} {IoS : Nat → Prop} {w0 : World} {X0 : Un} {γ : Id → Value} {S : St} {a : Act} {w : World} {E : Env} {o : Oper} {x : AV} {σ' : Store}

theorem sim_store (hE : EnvOK P E) (hr : Rel P IoS w0 X0 γ S a w) {T : TypeId} {oa ox : Operand} (ho : o.op = .store T oa ox) (h : (step E S.f o).ex S.o = some (x, σ')) : Sim P IoS w0 X0 S a w o x σ' := by
  simp only [step, ho] at h
  have hv := hr.opd oa
  split at h
  · rename_i i n p hx
    rw [hx] at hv
    obtain ⟨ob, hi, g0⟩ := get_ex h
    clear h
    split at g0
    · rename_i hc
      simp only [Bool.and_eq_true, decide_eq_true_eq] at hc
      obtain ⟨⟨hc1, hc2⟩, hc3⟩ := hc
      obtain ⟨ob', σ1, h3, h4⟩ := Pr.ex_bind_some g0
      have h5 := put_ex h4
      obtain ⟨rfl, rfl⟩ := ret_ex h5
      obtain ⟨b, off, j1, j2, j3⟩ := ref_ok hv hi hc1
      have hval := hr.opd ox
      cases hT : E.ty T with
      | none => rw [hT] at hc3; cases hc3
      | some u =>
        rw [hT] at hc2
        have hTu := hE.ty _ _ hT
        cases ob with
        | iter s q m => cases hc2
        | box t fs n' sh =>
          cases sh with
          | true => cases p <;> cases h3
          | false =>
            obtain ⟨gs, σ2, h6, h7⟩ := Pr.ex_bind_some (show ((storeFs t fs p (opd S.f ox)).bind fun gs => .ret (.box t gs n' false)).ex S.o = some (ob', σ1) from h3)
            obtain ⟨rfl, rfl⟩ := ret_ex h7
            obtain ⟨b', cells, T', e1, e2, e3, e4, e5⟩ := hr.obs i _ hi
            have hb : BoxV P w (unst X0 S.o γ) S.o γ t fs cells.toList := ⟨e5, e3, e4⟩
            have hbb : b' = b := by rw [e1] at j1; simpa [baseOf] using j1
            subst hbb
            obtain ⟨rfl, pre, c1, post, g1, g2, g3, g4, g5, g6⟩ := storeFs_ok hc2 hTu hb (fun e => by subst e; have h' : tyT t [] = some u := hc2; rw [tyT_nil] at h'; simp only [Option.some.injEq] at h'; subst h'; exact hb.size hTu) h6 hval
            have hoff : off = pre.length := by
              have : offT t p = some off := j2
              rw [g1] at this
              simpa using this.symm
            subst hoff
            have hrun := store_run (P := P) (T := T) hTu e2 g2 g3 g4 g5
            have t1 : Turn P X0 γ S.o w i (.box t gs n' false) (γ i) (w.setRow b' (pre ++ ((a.eval ox).cells.toList ++ post)).toArray) := {
              row := ⟨some b', grownBy_setRow w b' _, fun b hb => ⟨_, hi, by rw [j1]; exact hb⟩⟩
              ver := by
                intro ob0 h0
                rw [hi] at h0
                simp only [Option.some.injEq] at h0
                subst h0
                exact ⟨Nat.le_refl _, fun _ => ⟨rfl, fun q _ => by cases q <;> rfl, by rintro ⟨e, t, xs, k, sh, h⟩; cases h⟩⟩
              base := fun b hb => ⟨.inl ⟨_, hi, hb⟩, by rw [setRow_size]; exact hr.base_lt hi hb⟩
              un := fun b k hb _ _ => ⟨_, hi, hb, rfl⟩
              cell := by
                intro ob0 b k h0 _ hu
                rw [hi] at h0
                simp only [Option.some.injEq] at h0
                subst h0
                exact absurd rfl hu }
            have hx := t1.ext hr
            have hb' := hb.mono hx
            obtain ⟨_, pre', c1', post', g1', g2', g3', g4', g5', g6'⟩ := storeFs_ok hc2 hTu hb' (fun e => by subst e; have h' : tyT t [] = some u := hc2; rw [tyT_nil] at h'; simp only [Option.some.injEq] at h'; subst h'; exact hb.size hTu) h6 (hval.mono hx)
            have hpre : pre' = pre ∧ c1' ++ post' = c1 ++ post := by
              have hl : pre'.length = pre.length := by rw [g1] at g1'; simpa using g1'.symm
              exact List.append_inj (g2'.symm.trans g2) hl
            have hpost : post' = post := (List.append_inj hpre.2 (by omega)).2
            rw [hpre.1, hpost] at g6'
            refine Sim.turn hr t1 (v := undef) (.inr ⟨rfl, ?_⟩) ?_ trivial
            · simp [execOp, ho, j3, Instr.storeAt, Instr.sureAddr, hrun]
            · exact ⟨b', _, T', e1, setRow_heap w b' cells _ T' (0, 0) e2, g6'.len, g6'.ok, by simpa using g6'.vs⟩
        | arr e t xs n' sh =>
          cases sh with
          | true => cases p <;> cases h3
          | false =>
            cases p with
            | nil => cases hc2
            | cons j p =>
              obtain ⟨q, hq, h6⟩ := opt_ex (show (Pr.opt (xs[j]?) fun x => (setP t x p (opd S.f ox)).bind fun z => .ret (.arr e t (xs.set j z) n' false)).ex S.o = some (ob', σ1) from h3)
              obtain ⟨z, σ2, h7, h8⟩ := Pr.ex_bind_some h6
              obtain ⟨rfl, rfl⟩ := ret_ex h8
              obtain ⟨cells, css, e1, e2, e3, e4, e5⟩ := hr.obs i _ hi
              obtain ⟨pr, c0, po, f1, f2, f3, _⟩ := css_set e4 e5 hq
              obtain ⟨rfl, pre, c1, post, u', g1, g2, rfl, g4, g5, g6, _⟩ := setP_ok t h7 f3 hval
              have hu' : tyT t p = some u := hc2
              rw [hu'] at g1
              simp only [Option.some.injEq] at g1
              subst g1
              have hj : j < xs.length := (List.getElem?_eq_some_iff.1 hq).1
              have hoff : off = (pr ++ pre).length := by
                have : (if j < xs.length then (offT t p).map (j * t.size + ·) else none) = some off := j2
                rw [if_pos hj, g2] at this
                simp only [Option.map_some, Option.some.injEq] at this
                rw [List.length_append, f2]; exact this.symm
              subst hoff
              rcases e1.2 with ⟨_, hn0⟩ | ⟨g, cap, cur, k0, k1, k2, k3, k4, k5, k6⟩
              · omega
              · have hbb : g = b := by rw [k0] at j1; simpa [baseOf] using j1
                subst hbb
                have hcur : cur.toList = (pr ++ pre) ++ (c1 ++ (post ++ po ++ cur.toList.drop (xs.length * t.size))) := by
                  conv => lhs; rw [← List.take_append_drop (xs.length * t.size) cur.toList, k6, e3, f1]
                  simp
                have hrun := store_run (P := P) (T := T) hTu k2 hcur g4 g5 g6
                have t1 : Turn P X0 γ S.o w i (.arr e t (xs.set j z) n' false) (γ i) (w.setRow g ((pr ++ pre) ++ ((a.eval ox).cells.toList ++ (post ++ po ++ cur.toList.drop (xs.length * t.size)))).toArray) := {
                  row := ⟨some g, grownBy_setRow w g _, fun b hb => ⟨_, hi, by rw [j1]; exact hb⟩⟩
                  ver := by
                    intro ob0 h0
                    rw [hi] at h0
                    simp only [Option.some.injEq] at h0
                    subst h0
                    refine ⟨Nat.le_refl _, fun _ => ⟨rfl, fun q _ => ?_, fun _ => ⟨e, t, _, n', false, rfl⟩⟩⟩
                    cases q with
                    | nil => rfl
                    | cons i q => simp [offP]
                  base := fun b hb => ⟨.inl ⟨_, hi, hb⟩, by rw [setRow_size]; exact hr.base_lt hi hb⟩
                  un := fun b k hb _ _ => ⟨_, hi, hb, fun h => by cases h⟩
                  cell := by
                    intro ob0 b k h0 _ hu
                    rw [hi] at h0
                    simp only [Option.some.injEq] at h0
                    subst h0
                    exact absurd (fun h => by cases h) hu }
                have hx := t1.ext hr
                have e5' : ∀ (i : Nat) (x : Den t) (d : List Value), xs[i]? = some x → css[i]? = some d → RD P t _ _ x d := fun i x d hx' hd => RD.mono t (e5 i x d hx' hd) hx.le
                obtain ⟨pr', c0', po', f1', f2', f3', f4'⟩ := css_set e4 e5' hq
                have hpr : pr' = pr ∧ c0' ++ po' = (pre ++ (c1 ++ post)) ++ po := List.append_inj (f1'.symm.trans f1) (f2'.trans f2.symm)
                have hc0 : c0' = pre ++ (c1 ++ post) ∧ po' = po := List.append_inj hpr.2 (by rw [RD.length t f3', RD.length t f3])
                rw [hpr.1, hc0.2] at f4'
                rw [hc0.1] at f3'
                obtain ⟨_, pre', c1', post', u', q1, q2, q3, q4, q5, q6, q7⟩ := setP_ok t h7 f3' (hval.mono hx)
                rw [hu'] at q1
                simp only [Option.some.injEq] at q1
                subst q1
                have hpre : pre = pre' ∧ c1 ++ post = c1' ++ post' := List.append_inj q3 (by rw [g2] at q2; simpa using q2)
                have hpost : post = post' := (List.append_inj hpre.2 (by omega)).2
                rw [← hpre.1, ← hpost] at q7
                obtain ⟨css', m1, m2, m3⟩ := f4' _ _ q7
                refine Sim.turn hr t1 (v := undef) (.inr ⟨rfl, ?_⟩) ?_ trivial
                · simp only [List.length_append] at hrun
                  simp [execOp, ho, j3, Instr.storeAt, Instr.sureAddr, hrun]
                · have hlen : (xs.set j z).length = xs.length := by simp
                  have hcl : cells.length = xs.length * t.size := e1.1
                  have hcells : cells.length = (pr ++ (pre ++ ((a.eval ox).cells.toList ++ post) ++ po)).length := by
                    rw [e3, f1]; simp only [List.length_append]; omega
                  refine ⟨pr ++ (pre ++ ((a.eval ox).cells.toList ++ post) ++ po), css', ⟨by rw [← hcells, hlen]; exact hcl, .inr ⟨g, cap, _, by rw [hlen]; exact k0, k1, setRow_heap w g cur _ e (0, 0) k2, by rw [hlen]; exact k3, k4, ?_, ?_⟩⟩, e2, by rw [m1], m2, m3⟩
                  · have : cur.size = cur.toList.length := by simp
                    refine Nat.le_trans k5 (Nat.le_of_eq ?_)
                    have hc2 := congrArg List.length hcur
                    refine this.trans (Eq.trans ?_ List.size_toArray.symm)
                    simp only [List.length_append] at hc2 ⊢
                    omega
                  · have hcut : ∀ (d D : List Value) (n : Nat), n = (pr ++ (pre ++ (d ++ post) ++ po)).length → List.take n (pr ++ pre ++ (d ++ (post ++ po ++ D))) = pr ++ (pre ++ (d ++ post) ++ po) := by
                      intro d D n hn
                      have : pr ++ pre ++ (d ++ (post ++ po ++ D)) = (pr ++ (pre ++ (d ++ post) ++ po)) ++ D := by simp
                      rw [this, hn, List.take_left]
                    exact hcut _ _ _ (by rw [hlen, ← hcl]; exact hcells)
    · cases g0
  · cases h
/-- a new iterator over a text -/
theorem sim_range (hE : EnvOK P E) (hr : Rel P IoS w0 X0 γ S a w) {T : TypeId} {ox : Operand} (ho : o.op = .range T ox) (h : (step E S.f o).ex S.o = some (x, σ')) : Sim P IoS w0 X0 S a w o x σ' := by
  simp only [step, ho] at h
  split at h
  · rename_i hT
    obtain ⟨s, hs, h⟩ := opt_ex h
    have h1 := next_ex h
    have h2 := put_ex h1
    obtain ⟨rfl, rfl⟩ := ret_ex h2
    have es := RV.str_inv (as_VR hs (hr.opd ox))
    have t1 : Turn P X0 γ S.o w (E.al (o.dst.getD 0)) (.iter s 0 (match S.o (E.al (o.dst.getD 0)) with | some b => b.ver + 1 | none => 0)) (.pointer (some ⟨w.heap.size, 0, none⟩)) (w.alloc (.stringIter s 0)) :=
      fresh_turn hr (grownBy_alloc w _) (fun b hb => by have := baseOf_at hb; simp; omega) rfl
    refine Sim.turn hr t1 (v := .pointer (some ⟨w.heap.size, 0, none⟩)) (.inl ?_) ?_ ?_
    · simp [execOp, ho, es, Instr.range, run_underlying (hE.ty _ _ hT).2]
    · exact ⟨w.heap.size, rfl, by show (w.heap.push _)[w.heap.size]? = _; simp⟩
    · exact ⟨.iter s 0 _, _, by simp [Store.set_get], ⟨Nat.le_refl _, rfl⟩, rfl, fun _ => ⟨w.heap.size, 0, by simp [upd1, baseOf], rfl, rfl⟩⟩
  · cases h

theorem sim_next (hE : EnvOK P E) (hr : Rel P IoS w0 X0 γ S a w) {oi : Operand} {st : Bool} (ho : o.op = .next oi st) (h : (step E S.f o).ex S.o = some (x, σ')) : Sim P IoS w0 X0 S a w o x σ' := by
  cases st with
  | false => simp only [step, ho] at h; cases h
  | true =>
  simp only [step, ho] at h
  have hv := hr.opd oi
  split at h
  · rename_i i n hx
    rw [hx] at hv
    obtain ⟨ob, hi, g0⟩ := get_ex h
    clear h
    split at g0
    · rename_i s pos n'
      split at g0
      · rename_i hn
        subst hn
        obtain ⟨b, off, j1, j2, j3⟩ := ref_ok hv hi rfl
        have hoff : off = 0 := by
          have : some (0 : Nat) = some off := j2
          simpa using this.symm
        subst hoff
        obtain ⟨b', e1, e2⟩ := hr.obs i _ hi
        have hbb : b' = b := by rw [e1] at j1; simpa [baseOf] using j1
        subst hbb
        obtain ⟨hlt, e2'⟩ := Array.getElem?_eq_some_iff.1 e2
        rcases ite_ex g0 with ⟨hc, h⟩ | ⟨hc, h⟩
        · have h1 := put_ex h
          obtain ⟨rfl, rfl⟩ := ret_ex h1
          have hp : pos < s.size := by simpa using hc
          have hg : w.grownBy { w with heap := w.heap.setIfInBounds b' (.stringIter s (pos + (Utf8.decode s pos).2)) } (some b') :=
            ⟨rfl, rfl, rfl, by simp, fun c hc hne => by
              show (w.heap.setIfInBounds b' _)[c]? = w.heap[c]?
              rw [Array.getElem?_setIfInBounds, if_neg (fun e => hne (by rw [e]))]⟩
          have t1 : Turn P X0 γ S.o w i (.iter s (pos + (Utf8.decode s pos).2) n') (γ i) { w with heap := w.heap.setIfInBounds b' (.stringIter s (pos + (Utf8.decode s pos).2)) } := {
            row := ⟨some b', hg, fun c hc => ⟨_, hi, by rw [j1]; exact hc⟩⟩
            ver := by
              intro ob0 h0
              rw [hi] at h0
              simp only [Option.some.injEq] at h0
              subst h0
              exact ⟨Nat.le_refl _, fun _ => ⟨rfl, fun q _ => by cases q <;> rfl, by rintro ⟨e, t, xs, k, sh, h⟩; cases h⟩⟩
            base := fun c hc => ⟨.inl ⟨_, hi, hc⟩, by simpa using hr.base_lt hi hc⟩
            un := fun c k hc _ _ => ⟨_, hi, hc, trivial⟩
            cell := by
              intro ob0 c k h0 _ hu
              rw [hi] at h0
              simp only [Option.some.injEq] at h0
              subst h0
              exact absurd trivial hu }
          refine Sim.turn hr t1 (v := .tuple #[.bool true, .int .i64 pos, .int .i32 (Utf8.decode s pos).1]) (.inl ?_) ?_ ?_
          · simp [execOp, ho, j3, Instr.next, getObj, setObj, Sem.run, e2', hp, hlt, goInt, Result.andThen]
          · exact ⟨b', e1, by simp [hlt]⟩
          · refine ⟨#[.bool true, .int .i64 pos, .int .i32 (Utf8.decode s pos).1], rfl, rfl, ?_⟩
            intro q x' u' hx' hu
            match q with
            | 0 => simp at hx' hu; subst hx'; subst hu; exact RV_bool
            | 1 => simp at hx' hu; subst hx'; subst hu; exact RV_int
            | 2 => simp at hx' hu; subst hx'; subst hu; exact RV_int
            | q + 3 => simp at hx'
        · obtain ⟨rfl, rfl⟩ := ret_ex h
          have hp : ¬ pos < s.size := by simpa using hc
          refine Sim.pure hr (v := .tuple #[.bool false]) ?_ ?_
          · simp [execOp, ho, j3, Instr.next, getObj, setObj, Sem.run, e2', hlt, hp, Result.andThen]
          · refine ⟨#[.bool false], rfl, rfl, ?_⟩
            intro q x' u' hx' hu
            match q with
            | 0 => simp at hx' hu; subst hx'; subst hu; exact RV_bool
            | q + 1 => simp at hx'
      · cases g0
    · cases g0
  · cases h
end
end Go.AM
end

section
namespace Go.AM
open RowKit

section
variable {P : Program} {w : World} {X : Un} {E : Env} {o : Store} {γ : Id → Value}

def tysOf : Ty → List Ty
  | .pair a b => a :: tysOf b
  | .arr n t => List.replicate n t
  | _ => []
def offL (tys : List Ty) (j : Nat) : Nat := ((tys.take j).map Ty.size).sum

def IV (P : Program) (w : World) (X : Un) (o : Store) (γ : Id → Value) : List Ty → List AV → List Value → Prop
  | [], [], cs => cs = []
  | a :: tys, x :: l, cs => ∃ c1 c2, cs = c1 ++ c2 ∧ okF a x = true ∧ VC P w X o γ x c1 ∧ IV P w X o γ tys l c2
  | _, _, _ => False

theorem IV.vs : ∀ {tys : List Ty} {l : List AV} {cs : List Value}, IV P w X o γ tys l cs → VCs P w X o γ l cs
  | [], [], cs, h => h
  | a :: tys, x :: l, cs, h => by obtain ⟨c1, c2, h1, _, h2, h3⟩ := h; exact ⟨c1, c2, h1, h2, h3.vs⟩
  | [], _ :: _, _, h => h.elim
  | _ :: _, [], _, h => h.elim

theorem IV.length : ∀ {tys : List Ty} {l : List AV} {cs : List Value}, IV P w X o γ tys l cs → cs.length = (tys.map Ty.size).sum
  | [], [], cs, h => by rw [show cs = [] from h]; rfl
  | a :: tys, x :: l, cs, h => by obtain ⟨c1, c2, rfl, h0, h2, h3⟩ := h; rw [List.length_append, VC_length h0 h2, h3.length]; simp
  | [], _ :: _, _, h => h.elim
  | _ :: _, [], _, h => h.elim

theorem IV.set : ∀ {tys : List Ty} {l : List AV} {cs : List Value} {j : Nat} {a : Ty} {z : AV} {d : List Value}, IV P w X o γ tys l cs → tys[j]? = some a → okF a z = true → VC P w X o γ z d →
    ∃ pre c post, cs = pre ++ (c ++ post) ∧ pre.length = offL tys j ∧ c.length = d.length ∧ IV P w X o γ tys (l.set j z) (pre ++ (d ++ post))
  | [], [], cs, j, a, z, d, h, ha, _, _ => by simp at ha
  | b :: tys, x :: l, cs, j, a, z, d, h, ha, hz, hd => by
    obtain ⟨c1, c2, rfl, h0, h2, h3⟩ := h
    cases j with
    | zero =>
      have : b = a := by simpa using ha
      subst this
      exact ⟨[], c1, c2, rfl, by simp [offL], by rw [VC_length h0 h2, VC_length hz hd], d, c2, rfl, hz, hd, h3⟩
    | succ j =>
      obtain ⟨pre, c, post, rfl, g1, g2, g3⟩ := h3.set (j := j) (by simpa using ha) hz hd
      exact ⟨c1 ++ pre, c, post, by simp, by rw [List.length_append, VC_length h0 h2, g1]; simp [offL], g2, c1, pre ++ (d ++ post), by simp, h0, h2, g3⟩
  | [], _ :: _, _, _, _, _, _, h, _, _, _ => h.elim
  | _ :: _, [], _, _, _, _, _, h, _, _, _ => h.elim

theorem foldl_cells (d : List Value) : ∀ (cs : Array Value) (off k : Nat) (pre c1 post : List Value), cs.toList = pre ++ (c1 ++ post) → pre.length = off + k → c1.length = d.length →
    ((d.zipIdx k).foldl (fun cs (c, j) => cs.setIfInBounds (off + j) c) cs).toList = pre ++ (d ++ post) := by
  induction d with
  | nil =>
    intro cs off k pre c1 post h hp hc
    have : c1 = [] := List.eq_nil_of_length_eq_zero hc
    subst this
    simpa using h
  | cons x d ih =>
    intro cs off k pre c1 post h hp hc
    cases c1 with
    | nil => simp at hc
    | cons c c1 =>
      simp only [List.zipIdx_cons, List.foldl_cons]
      have := ih (cs.setIfInBounds (off + k) x) off (k + 1) (pre ++ [x]) c1 post (by
        rw [Array.toList_setIfInBounds, h, ← hp]
        simp) (by simp [hp]; omega) (by simpa using hc)
      rw [this]
      simp

theorem fill_one {place : Nat → Option (Nat × Nat)} {cells : Array Value} {i off size : Nat} {v : Value} {rest : List (Nat × Value)} {pre c post : List Value} (hp : place i = some (off, size)) (hc : cells.toList = pre ++ (c ++ post)) (h1 : pre.length = off)
    (h2 : c.length = v.cells.toList.length) (h3 : v.cells.toList.length = size) : ∃ cells' : Array Value, cells'.toList = pre ++ (v.cells.toList ++ post) ∧ Instr.fill place cells ((i, v) :: rest) = Instr.fill place cells' rest := by
  refine ⟨v.cells.zipIdx.foldl (fun cs (c, j) => cs.setIfInBounds (off + j) c) cells, ?_, ?_⟩
  · have := foldl_cells v.cells.toList cells off 0 pre c post hc (by omega) h2
    rw [← Array.foldl_toList, Array.toList_zipIdx]
    exact this
  · have hs : v.cells.size = size := by rw [← Array.length_toList]; exact h3
    have hl : cells.size = pre.length + (c.length + post.length) := by rw [← Array.length_toList, hc]; simp
    have hle : off + v.cells.size ≤ cells.size := by rw [hl, ← h1, h2, ← Array.length_toList (xs := v.cells)]; omega
    simp only [Instr.fill, hp]
    rw [if_neg]
    simp [hs]
    omega

def itemTy (t : Ty) (j : Nat) : Option Ty := match t with | .arr n a => if j < n then some a else none | t => nthTy t j

theorem itemTy_get : (t : Ty) → ∀ {j : Nat} {a : Ty}, itemTy t j = some a → (tysOf t)[j]? = some a
  | .arr n t, j, a, h => by
    have h' : (if j < n then some t else none) = some a := h
    split at h'
    · rename_i hj; simpa [tysOf, hj] using h'
    · cases h'
  | .pair a b, j, u, h => by
    have h' : nthTy (.pair a b) j = some u := h
    clear h
    induction j generalizing a b with
    | zero => have : some a = some u := h'; simpa [tysOf] using this
    | succ j ih =>
      have h2 : nthTy b j = some u := h'
      cases b with
      | pair a' b' => have := ih a' b' h2; simpa [tysOf] using this
      | _ => cases h2
  | .int _, _, _, h => by cases h
  | .bool, _, _, h => by cases h
  | .str, _, _, h => by cases h
  | .unit, _, _, h => by cases h
  | .slice _, _, _, h => by cases h
  | .ptr _, _, _, h => by cases h
  | .nilI, _, _, h => by cases h
  | .alt _ _ _, _, _, h => by cases h
  | .fn _ _ _, _, _, h => by cases h
  | .opq _, _, _, h => by cases h

theorem fill_ok {t : Ty} {place : Nat → Option (Nat × Nat)} (hp : ∀ (j : Nat) (a : Ty), (tysOf t)[j]? = some a → place j = some (offL (tysOf t) j, a.size)) :
    ∀ (parts : List (Nat × AV)) (vals : List (Nat × Value)) {l l' : List AV} {cs : List Value} {cells : Array Value}, fill t l parts = some l' → IV P w X o γ (tysOf t) l cs → cells.toList = cs →
      vals.length = parts.length → (∀ (i : Nat) (p : Nat × AV) (q : Nat × Value), parts[i]? = some p → vals[i]? = some q → q.1 = p.1 ∧ VR P w X o γ p.2 q.2) →
      ∃ cells' : Array Value, Instr.fill place cells vals = some cells' ∧ IV P w X o γ (tysOf t) l' cells'.toList
  | [], vals, l, l', cs, cells, h, hi, hc, hl, hv => by
    have : vals = [] := List.eq_nil_of_length_eq_zero hl
    subst this
    have h' : some l = some l' := h
    simp only [Option.some.injEq] at h'
    subst h'
    exact ⟨cells, rfl, by rw [hc]; exact hi⟩
  | (j, y) :: parts, [], l, l', cs, cells, h, hi, hc, hl, hv => by simp at hl
  | (j, y) :: parts, (j', val) :: vals, l, l', cs, cells, h, hi, hc, hl, hv => by
    obtain ⟨hj, hy⟩ := hv 0 _ _ rfl rfl
    have hj' : j' = j := hj
    subst hj'
    have h' : (match itemTy t j' with | some a => (norm a y).bind fun z => fill t (l.set j' z) parts | none => none) = some l' := h
    cases ha : itemTy t j' with
    | none => rw [ha] at h'; cases h'
    | some a =>
      rw [ha] at h'
      obtain ⟨z, hz, h2⟩ := Option.bind_eq_some_iff.1 h'
      obtain ⟨k1, k2⟩ := norm_ok hz hy
      have hga := itemTy_get t ha
      obtain ⟨pre, c, post, g1, g2, g3, g4⟩ := hi.set hga k1 k2
      obtain ⟨cells', m1, m2⟩ := fill_one (rest := vals) (v := val) (hp j' a hga) (hc.trans g1) g2 g3 (VC_length k1 k2)
      obtain ⟨cells'', n1, n2⟩ := fill_ok hp parts vals h2 g4 m1 (by simpa using hl) (fun i p q hp' hq' => hv (i + 1) p q (by simpa using hp') (by simpa using hq'))
      exact ⟨cells'', m2.trans n1, n2⟩

theorem FsOK.places : (b : Ty) → ∀ {l : List Field} {k : Nat}, FsOK P b l k → ∃ places, l.mapM (fun f => (P.info? f.type).map fun i => (f.offset, i.size)) = some places ∧
    ∀ (j : Nat) (a : Ty), (tysOf b)[j]? = some a → places[j]? = some (k + offL (tysOf b) j, a.size)
  | .unit, l, k, h => by
    have : l = [] := h
    subst this
    exact ⟨[], rfl, fun j a ha => by simp [tysOf] at ha⟩
  | .pair a b, l, k, h => by
    obtain ⟨f, l', rfl, ⟨h1, h2, h3, h4⟩, h5⟩ := h
    obtain ⟨places, g1, g2⟩ := FsOK.places b h5
    obtain ⟨i, i1, i2⟩ := h4.run_info
    refine ⟨(f.offset, i.size) :: places, by simp [List.mapM_cons, i1, g1], fun j u hu => ?_⟩
    cases j with
    | zero =>
      have : a = u := by simpa [tysOf] using hu
      subst this
      simp [h1, i2, offL]
    | succ j =>
      have := g2 j u (by simpa [tysOf] using hu)
      simp only [List.getElem?_cons_succ, this, tysOf, offL, List.take_succ_cons, List.map_cons, List.sum_cons]
      congr 2
      omega
  | .int _, _, _, h => h.elim
  | .bool, _, _, h => h.elim
  | .str, _, _, h => h.elim
  | .arr _ _, _, _, h => h.elim
  | .slice _, _, _, h => h.elim
  | .ptr _, _, _, h => h.elim
  | .nilI, _, _, h => h.elim
  | .alt _ _ _, _, _, h => h.elim
  | .fn _ _ _, _, _, h => h.elim
  | .opq _, _, _, h => h.elim

theorem zeros_IV : (b : Ty) → ∀ {l : List Field} {k : Nat} {cs : List Value}, FsOK P b l k → zc b cs → IV P w X o γ (tysOf b) (zeros b) cs
  | .unit, l, k, cs, hf, h => h
  | .pair a b, l, k, cs, hf, h => by
    obtain ⟨f, l', rfl, _, h5⟩ := hf
    obtain ⟨c1, c2, rfl, h1, h2⟩ := h
    obtain ⟨g1, g2⟩ := zeroAV_VC (P := P) (w := w) (γ := γ) (X := X) (o := o) h1
    exact ⟨c1, c2, rfl, g2, g1, zeros_IV b h5 h2⟩
  | .int _, _, _, _, h, _ => h.elim
  | .bool, _, _, _, h, _ => h.elim
  | .str, _, _, _, h, _ => h.elim
  | .arr _ _, _, _, _, h, _ => h.elim
  | .slice _, _, _, _, h, _ => h.elim
  | .ptr _, _, _, _, h, _ => h.elim
  | .nilI, _, _, _, h, _ => h.elim
  | .alt _ _ _, _, _, _, h, _ => h.elim
  | .fn _ _ _, _, _, _, h, _ => h.elim
  | .opq _, _, _, _, h, _ => h.elim

theorem zeros_arr {t : Ty} : ∀ {css : List (List Value)}, (∀ d ∈ css, zc t d) → IV P w X o γ (List.replicate css.length t) (List.replicate css.length (zeroAV t)) css.flatten
  | [], _ => rfl
  | d :: css, h => by
    obtain ⟨g1, g2⟩ := zeroAV_VC (P := P) (w := w) (γ := γ) (X := X) (o := o) (h d (List.mem_cons_self ..))
    exact ⟨d, css.flatten, rfl, g2, g1, zeros_arr fun d hd => h d (List.mem_cons_of_mem _ hd)⟩

theorem offL_arr (n j : Nat) (t : Ty) (h : j ≤ n) : offL (List.replicate n t) j = j * t.size := by
  unfold offL
  rw [List.take_replicate, Nat.min_eq_left h, List.map_replicate, List.sum_replicate_nat]
end

section
variable {P : Program} {IoS : Nat → Prop} {w0 : World} {X0 : Un} {γ : Id → Value} {S : St} {a : Act} {w : World} {E : Env} {o : Oper} {x : AV} {σ' : Store}

theorem sim_build (hE : EnvOK P E) (hr : Rel P IoS w0 X0 γ S a w) {T : TypeId} {parts : Array (Nat × Operand)} (ho : o.op = .build T parts) (h : (step E S.f o).ex S.o = some (x, σ')) : Sim P IoS w0 X0 S a w o x σ' := by
  simp only [step, ho] at h
  split at h
  · rename_i t hT
    split at h
    case isFalse => cases h
    rename_i hcomp
    obtain ⟨l, hl, h⟩ := opt_ex h
    obtain ⟨rfl, rfl⟩ := ret_ex h
    have hTy := hE.ty _ _ hT
    obtain ⟨i, z, i1, i2, i3, i4, i5⟩ := hTy.tok
    have hv : ∀ (i : Nat) (p : Nat × AV) (q : Nat × Value), (parts.toList.map fun (i, x) => (i, opd S.f x))[i]? = some p → (parts.toList.map fun (i, x) => (i, a.eval x))[i]? = some q → q.1 = p.1 ∧ VR P w (unst X0 S.o γ) S.o γ p.2 q.2 := by
      intro i p q hp hq
      rw [List.getElem?_map] at hp hq
      cases hx : parts.toList[i]? with
      | none => rw [hx] at hp; cases hp
      | some y =>
        rw [hx] at hp hq
        simp only [Option.map_some, Option.some.injEq] at hp hq
        subst hp; subst hq
        exact ⟨rfl, hr.opd y.2⟩
    have fin : ∀ cells : Array Value, P.built T (parts.toList.map fun (i, x) => (i, a.eval x)) = some cells → IV P w (unst X0 S.o γ) S.o γ (tysOf t) l cells.toList → Sim P IoS w0 X0 S a w o (.agg l) S.o := by
      intro cells hb hiv
      refine Sim.pure hr (v := .agg cells) ?_ ⟨cells, rfl, hiv.vs⟩
      have := run_build (P := P) w T (parts.map fun (i, x) => (i, a.eval x)) cells (by simpa using hb)
      simp only [execOp, ho, Sem.run_bind, this, Result.andThen_ok]
      rfl
    cases hc : t.cmp with
    | true =>
      obtain ⟨fs, u1, u2⟩ := hTy.fields hc
      obtain ⟨places, p1, p2⟩ := u2.places t
      have hiv := zeros_IV (P := P) (w := w) (X := unst X0 S.o γ) (o := S.o) (γ := γ) t u2 i5
      obtain ⟨cells, c1, c2⟩ := fill_ok (P := P) (w := w) (X := unst X0 S.o γ) (o := S.o) (γ := γ) (t := t) (place := (places.toArray[·]?)) (fun j a ha => by simpa using p2 j a ha) _ (parts.toList.map fun (i, x) => (i, a.eval x)) hl hiv (cells := z.cells) rfl (by simp) hv
      exact fin cells (by simp only [Program.built, i1, u1, i3, p1]; exact c1) c2
    | false =>
      cases t with
      | arr n s =>
        obtain ⟨_, e, u1, u2⟩ := hTy
        obtain ⟨ie, ie1, ie2⟩ := u2.run_info
        obtain ⟨css, g1, g2, g3⟩ := i5
        have hiv : IV P w (unst X0 S.o γ) S.o γ (tysOf (.arr n s)) (zeros (.arr n s)) z.cells.toList := by
          rw [g1]
          have := zeros_arr (P := P) (w := w) (X := unst X0 S.o γ) (o := S.o) (γ := γ) g3
          rw [g2] at this
          exact this
        obtain ⟨cells, c1, c2⟩ := fill_ok (P := P) (w := w) (X := unst X0 S.o γ) (o := S.o) (γ := γ) (t := .arr n s) (place := fun i => some (i * ie.size, ie.size)) (fun j a ha => by
          have hj : j < n := by
            have := (List.getElem?_eq_some_iff.1 ha).1
            simpa [tysOf] using this
          have : s = a := by simpa [tysOf, hj] using ha
          subst this
          rw [show tysOf (.arr n s) = List.replicate n s from rfl, offL_arr n j s (by omega), ie2]) _ (parts.toList.map fun (i, x) => (i, a.eval x)) hl hiv (cells := z.cells) rfl (by simp) hv
        exact fin cells (by simp only [Program.built, i1, u1, i3, ie1]; exact c1) c2
      | pair _ _ => cases hc
      | unit => cases hc
      | _ => cases hcomp
  · cases h

/-! ### New rows -/
theorem newRow_sim (hr : Rel P IoS w0 X0 γ S a w) {d : Id} {e : TypeId} {t : Ty} {xs : List (Den t)} {n : Nat} {css : List (List Value)} {v' : Value} {w' : World} (hver : n = match S.o d with | some b => b.ver + 1 | none => 0) (hpos : 0 < t.size)
    (hg : w.grownBy w' none) (hb : ∀ b, baseOf v' = some b → w.heap.size ≤ b) (hrun : (execOp a.eval o).run P w = .ok (.value v') w') (hown : w'.ownsC 0 e t.size v' xs.length css.flatten) (hl : css.length = xs.length)
    (hx : ∀ (i : Nat) (x : Den t) (d : List Value), xs[i]? = some x → css[i]? = some d → RD P t w (unst X0 S.o γ) x d) : Sim P IoS w0 X0 S a w o (.own d n) (S.o.set d (.arr e t xs n false)) := by
  have hlt : ∀ b, baseOf v' = some b → b < w'.heap.size := by
    intro b hb
    have := (hown.lt b (by rcases hown.2 with ⟨rfl, _⟩ | ⟨g, cap, cur, rfl, _⟩ <;> simpa [baseOf, Value.ownBlock] using hb)).2
    exact this
  have t1 : Turn P X0 γ S.o w d (.arr e t xs n false) v' w' := fresh_turn hr hg (fun b h => ⟨hb b h, hlt b h⟩) hver
  have hle := (t1.ext hr).le
  refine Sim.turn hr t1 (.inl hrun) ⟨css.flatten, css, hown, hpos, rfl, hl, fun i x d hx' hd => RD.mono t (hx i x d hx' hd) hle⟩ ?_
  have hone : v'.oneCell' = true := by rcases hown.2 with ⟨rfl, _⟩ | ⟨g, cap, cur, rfl, _⟩ <;> rfl
  exact ⟨.arr e t xs n false, v', by simp [Store.set_get], ⟨Nat.le_refl _, hone⟩, rfl, fun _ => ⟨by simp [upd1], e, t, xs, n, false, rfl⟩⟩

theorem made_list (z : Array Value) (n : Nat) : (madeCells z (n * z.size)).toList = (List.replicate n z.toList).flatten := by
  apply List.ext_getElem?
  intro j
  by_cases hz : z.size = 0
  · have : z.toList = [] := by simpa using hz
    simp [madeCells, hz, this]
  · by_cases hj : j < n * z.size
    · have hq : j / z.size < n := Nat.div_lt_of_lt_mul (by rw [Nat.mul_comm]; exact hj)
      have hr : j % z.size < z.size := Nat.mod_lt _ (by omega)
      have e : j = (j / z.size) * z.size + j % z.size := by rw [Nat.mul_comm]; exact (Nat.div_add_mod _ _).symm
      have hf := flatten_at (css := List.replicate n z.toList) (n := z.size) (fun d hd => by have := (List.mem_replicate.1 hd).2; subst this; simp) (j := j / z.size) (r := j % z.size) (d := z.toList) (by simp [hq]) hr
      rw [← e] at hf
      rw [hf]
      simp [madeCells, hj, hr]
    · have hl : (List.replicate n z.toList).flatten.length = n * z.size := by simp
      rw [List.getElem?_eq_none (by simp [madeCells]; omega), List.getElem?_eq_none (by rw [hl]; omega)]

theorem sameOpd_eval {l c : Operand} (h : sameOpd l c = true) (a : Act) : a.eval c = a.eval l := by
  unfold sameOpd at h
  split at h
  · rename_i x y
    have : x = y := by simpa using h
    rw [this]
  · simp only [Bool.and_eq_true, decide_eq_true_eq] at h
    obtain ⟨rfl, rfl⟩ := h
    rfl
  · cases h

theorem sim_makeSlice (hE : EnvOK P E) (hr : Rel P IoS w0 X0 γ S a w) {T : TypeId} {ol oc : Operand} (ho : o.op = .makeSlice T ol oc) (h : (step E S.f o).ex S.o = some (x, σ')) : Sim P IoS w0 X0 S a w o x σ' := by
  simp only [step, ho] at h
  split at h
  · rename_i t hT
    split at h
    · rename_i hs
      obtain ⟨m, hm, h⟩ := opt_ex h
      rcases ite_ex h with ⟨hb, h⟩ | ⟨_, h⟩
      · have h1 := next_ex h
        have h2 := put_ex h1
        obtain ⟨rfl, rfl⟩ := ret_ex h2
        simp only [Bool.and_eq_true, decide_eq_true_eq] at hb
        have em := RV.int_inv (as_VR hm (hr.opd ol))
        have ec : a.eval oc = a.eval ol :=
           sameOpd_eval hs a
        obtain ⟨hb1, hb2⟩ := hb
        obtain ⟨k, rfl⟩ : ∃ k : Nat, m = (k : Int) := Int.eq_ofNat_of_zero_le hb1
        have hk : k ≤ E.room T := by have h' : (k : Int) ≤ (E.room T : Int) := hb2; omega
        obtain ⟨_, hpos, _⟩ := hE.ty _ _ hT
        obtain ⟨i, u1, u2, ⟨i', z, i1, i2, i3, i4, i5⟩, _, u3, u4⟩ := hE.sl _ _ hT
        rw [u2] at i1
        simp only [Option.some.injEq] at i1
        subst i1
        have hbytes : i.bytes * k ≤ 281474976710656 := by
          have : k * i.bytes ≤ E.room T * i.bytes := Nat.mul_le_mul_right _ hk
          rw [Nat.mul_comm]; omega
        obtain ⟨w', r1, r2, r3⟩ := run_make_full (P := P) w 0 T (E.el T) i z t.size u1 u2 i3 i2 .i64 .i64 k hbytes (Nat.le_trans hk u4) (Nat.zero_le _)
        have hzs : z.cells.size = t.size := by rw [← Array.length_toList]; exact RD.length t (zc_RD (P := P) (w := w) (X := X0) t i5)
        rw [← hzs, made_list] at r2
        rw [hzs] at r2
        have hlen : (List.replicate (Int.toNat (k : Int)) t.zero).length = k := by simp
        refine newRow_sim hr (css := List.replicate k z.cells.toList) (v' := .slice (some ⟨w.heap.size, 0, none⟩) k k) rfl hpos r3 (fun b hb => Nat.le_of_eq (by simpa [baseOf] using hb)) ?_ (by rw [hlen]; exact r2.toC) (by simp) ?_
        · simp [execOp, ho, ec, em, r1]
        · intro j x d hx hd
          have hx' := (List.getElem?_eq_some_iff.1 hx).2
          have hd' := (List.getElem?_eq_some_iff.1 hd).2
          simp at hx' hd'
          subst hx'; subst hd'
          exact zc_RD t i5
      · cases h
    · cases h
  · cases h
end
end Go.AM
end

section
namespace Go.AM
open RowKit

section
variable {P : Program} {IoS : Nat → Prop} {w0 : World} {X0 : Un} {γ : Id → Value} {a : Act} {w : World} {E : Env}

theorem elems_ok (hE : EnvOK P E) {t : Ty} : ∀ (parts : List (Nat × AV)) (vals : List (Nat × Value)) {S : St} {k : Nat} {xs : List (Den t)} {σ' : Store}, Rel P IoS w0 X0 γ S a w → (elems E t k parts).ex S.o = some (xs, σ') → vals.length = parts.length →
    (∀ (i : Nat) (p : Nat × AV) (q : Nat × Value), parts[i]? = some p → vals[i]? = some q → q.1 = p.1 ∧ VR P w (unst X0 S.o γ) S.o γ p.2 q.2) →
    DOut P IoS w0 X0 γ a w true S σ' ∧ xs.length = parts.length ∧ ∀ (i : Nat) (q : Nat × Value) (x : Den t), vals[i]? = some q → xs[i]? = some x → q.1 = k + i ∧ RV P t w (unst X0 σ' γ) x q.2
  | [], vals, S, k, xs, σ', hr, h, hl, hv => by
    have : vals = [] := List.eq_nil_of_length_eq_zero hl
    subst this
    obtain ⟨rfl, rfl⟩ := ret_ex (show (Pr.ret ([] : List (Den t))).ex S.o = some (xs, σ') from h)
    exact ⟨DOut.refl hr, rfl, fun i q x hq => by simp at hq⟩
  | (j, y) :: parts, [], S, k, xs, σ', hr, h, hl, hv => by simp at hl
  | (j, y) :: parts, (j', val) :: vals, S, k, xs, σ', hr, h, hl, hv => by
    obtain ⟨hj, hy⟩ := hv 0 _ _ rfl rfl
    have hj' : j' = j := hj
    subst hj'
    have h' : (if j' = k then (y.data E true deep t).bind fun x => (elems E t (k + 1) parts).bind fun l => .ret (x :: l) else .fail).ex S.o = some (xs, σ') := h
    split at h'
    · rename_i e
      subst e
      obtain ⟨x, σ1, h1, h2⟩ := Pr.ex_bind_some h'
      obtain ⟨l, σ2, h3, h4⟩ := Pr.ex_bind_some h2
      obtain ⟨rfl, rfl⟩ := ret_ex h4
      obtain ⟨d1, v1⟩ := data_VR hE hr h1 hy
      obtain ⟨d2, l2, v2⟩ := elems_ok hE parts vals (S := ⟨S.f, σ1⟩) d1.rel h3 (by simpa using hl) (fun i p q hp hq => by
        obtain ⟨g1, g2⟩ := hv (i + 1) p q (by simpa using hp) (by simpa using hq)
        exact ⟨g1, g2.mono d1.ext⟩)
      refine ⟨d1.trans d2, by simp [l2], fun i q z hq hz => ?_⟩
      cases i with
      | zero =>
        simp at hq hz
        subst hq; subst hz
        exact ⟨rfl, v1.1, RD.mono t v1.2 d2.ext.le⟩
      | succ i =>
        obtain ⟨g1, g2⟩ := v2 i q z (by simpa using hq) (by simpa using hz)
        exact ⟨by omega, g2⟩
    · cases h'

theorem fill_all {size : Nat} : ∀ (vals : List (Nat × Value)) {k : Nat} {cells : Array Value} {done rest : List Value}, (∀ (i : Nat) (q : Nat × Value), vals[i]? = some q → q.1 = k + i ∧ q.2.cells.toList.length = size) → cells.toList = done ++ rest → done.length = k * size →
    rest.length = vals.length * size → ∃ cells' : Array Value, Instr.fill (fun i => some (i * size, size)) cells vals = some cells' ∧ cells'.toList = done ++ (vals.map fun q => q.2.cells.toList).flatten
  | [], k, cells, done, rest, hv, hc, hd, hr => by
    have : rest = [] := List.eq_nil_of_length_eq_zero (by simpa using hr)
    subst this
    exact ⟨cells, rfl, by simpa using hc⟩
  | (j, v) :: vals, k, cells, done, rest, hv, hc, hd, hr => by
    obtain ⟨e1, e2⟩ := hv 0 _ rfl
    have e1' : j = k := by simpa using e1
    subst e1'
    have e2' : v.cells.toList.length = size := e2
    have hrl : size ≤ rest.length := by rw [hr]; simp only [List.length_cons, Nat.add_mul, Nat.one_mul]; omega
    obtain ⟨cells', m1, m2⟩ := fill_one (cells := cells) (rest := vals) (v := v) (place := fun i => some (i * size, size)) (i := j) (off := j * size) (size := size) (pre := done) (c := rest.take size) (post := rest.drop size) rfl (by rw [List.take_append_drop]; exact hc) hd
      (by rw [List.length_take, Nat.min_eq_left hrl, e2']) e2'
    obtain ⟨cells'', n1, n2⟩ := fill_all vals (k := j + 1) (cells := cells') (done := done ++ v.cells.toList) (rest := rest.drop size) (fun i q hq => by
        obtain ⟨g1, g2⟩ := hv (i + 1) q (by simpa using hq)
        exact ⟨by omega, g2⟩) (by rw [m1]; simp) (by rw [List.length_append, hd, e2', Nat.add_mul, Nat.one_mul]) (by rw [List.length_drop, hr]; simp only [List.length_cons, Nat.add_mul, Nat.one_mul]; omega)
    exact ⟨cells'', m2.trans n1, by rw [n2]; simp⟩
end

section
variable {P : Program} {IoS : Nat → Prop} {w0 : World} {X0 : Un} {γ : Id → Value} {S : St} {a : Act} {w : World} {E : Env} {o : Oper} {x : AV} {σ' : Store}

theorem sim_buildSlice (hE : EnvOK P E) (hr : Rel P IoS w0 X0 γ S a w) {T : TypeId} {len : Nat} {parts : Array (Nat × Operand)} (ho : o.op = .buildSlice T len parts) (h : (step E S.f o).ex S.o = some (x, σ')) : Sim P IoS w0 X0 S a w o x σ' := by
  simp only [step, ho] at h
  split at h
  · rename_i t hT
    split at h
    · rename_i hs
      obtain ⟨hs1, hs2⟩ := hs
      obtain ⟨xs, σ1, h3, h4⟩ := Pr.ex_bind_some h
      have h5 := next_ex h4
      have h6 := put_ex h5
      obtain ⟨rfl, rfl⟩ := ret_ex h6
      have hv : ∀ (i : Nat) (p : Nat × AV) (q : Nat × Value), (parts.toList.map fun (i, x) => (i, opd S.f x))[i]? = some p → (parts.toList.map fun (i, x) => (i, a.eval x))[i]? = some q → q.1 = p.1 ∧ VR P w (unst X0 S.o γ) S.o γ p.2 q.2 := by
        intro i p q hp hq
        rw [List.getElem?_map] at hp hq
        cases hx : parts.toList[i]? with
        | none => rw [hx] at hp; cases hp
        | some y =>
          rw [hx] at hp hq
          simp only [Option.map_some, Option.some.injEq] at hp hq
          subst hp; subst hq
          exact ⟨rfl, hr.opd y.2⟩
      obtain ⟨hd, hxl, hx⟩ := elems_ok hE _ (parts.toList.map fun (i, x) => (i, a.eval x)) hr h3 (by simp) hv
      have hxl' : xs.length = len := by rw [hxl, List.length_map, Array.length_toList, hs1]
      have hvl : (parts.toList.map fun (i, x) => (i, a.eval x)).length = len := by rw [List.length_map, Array.length_toList, hs1]
      obtain ⟨_, hpos, _⟩ := hE.ty _ _ hT
      obtain ⟨i, u1, u2, ⟨i', z, i1, i2, i3, i4, i5⟩, _, u3, u4⟩ := hE.sl _ _ hT
      rw [u2] at i1
      simp only [Option.some.injEq] at i1
      subst i1
      have hq : ∀ (i : Nat) (q : Nat × Value), (parts.toList.map fun (i, x) => (i, a.eval x))[i]? = some q → q.1 = 0 + i ∧ q.2.cells.toList.length = t.size := by
        intro i q hq
        have hi : i < xs.length := by rw [hxl', ← hvl]; exact (List.getElem?_eq_some_iff.1 hq).1
        obtain ⟨g1, g2⟩ := hx i q _ hq (List.getElem?_eq_getElem hi)
        exact ⟨g1, RD.length t g2.2⟩
      have hzs : z.cells.size = t.size := by rw [← Array.length_toList]; exact RD.length t (zc_RD (P := P) (w := w) (X := X0) t i5)
      obtain ⟨cells, c1, c2⟩ := fill_all (size := t.size) (parts.toList.map fun (i, x) => (i, a.eval x)) (k := 0) (cells := (Array.range (len * t.size)).map (z.cells[· % z.cells.size]!)) (done := []) (rest := ((Array.range (len * t.size)).map (z.cells[· % z.cells.size]!)).toList) hq (by simp) (by simp) (by rw [hvl]; simp)
      have hrun : (Instr.buildSlice T len (parts.map fun (i, x) => (i, a.eval x))).run P w = .ok (.slice (some ⟨w.heap.size, 0, none⟩) len len) (w.alloc (.cells cells (E.el T))) := by
        have hsmall : ¬ (len * i.size > 2 ^ 24) := by
          rw [i2]
          have : (2 : Nat) ^ 24 = 16777216 := by decide
          omega
        by_cases h0 : len * t.size = 0
        · have hsz := hsmall
          have hl0 : len = 0 := by
            rcases Nat.mul_eq_zero.1 h0 with h | h
            · exact h
            · omega
          have hp0 : parts = #[] := Array.eq_empty_of_size_eq_zero (by omega)
          subst hp0
          subst hl0
          have hce : cells = #[] := by
            have : cells.toList = [] := by rw [c2]; rfl
            exact Array.toList_inj.1 (by rw [this])
          subst hce
          have hsz' : (sizeOf (E.el T)).run P w = .ok t.size w := by simp [sizeOf, typeInfo, u2, i2]
          have hr0 : ∀ f : Nat → Value, (Array.range 0).map f = #[] := fun f => Array.eq_empty_of_size_eq_zero (by simp)
          simp [Instr.buildSlice, run_underlying u1, hsz', Instr.fill, newRow, hr0]
        · have hc1 : Instr.fill (fun j => some (j * i.size, i.size)) ((Array.range (len * i.size)).map (z.cells[· % z.cells.size]!)) (parts.map fun (i, x) => (i, a.eval x)).toList = some cells := by
            rw [i2, Array.toList_map]
            exact c1
          exact run_buildSlice w T (E.el T) len _ cells i z u1 u2 i3 hsmall (by rw [i2]; exact h0) hc1
      have hcl : cells.toList.length = len * t.size := by
        rw [c2, List.nil_append, sum_const (n := t.size), List.length_map, hvl]
        intro d hd
        obtain ⟨q, hq', rfl⟩ := List.mem_map.1 hd
        obtain ⟨i, hi, rfl⟩ := List.getElem_of_mem hq'
        exact (hq i _ (List.getElem?_eq_getElem hi)).2
      have hmax : len ≤ maxLen := by
        have : len ≤ len * t.size := Nat.le_mul_of_pos_right _ hpos
        have : (16777216 : Nat) ≤ maxLen := by decide
        omega
      generalize hvals : (parts.toList.map fun (i, x) => (i, a.eval x)) = vals at *
      refine newRow_sim (S := ⟨S.f, σ1⟩) hd.rel (css := vals.map fun q => q.2.cells.toList) (v' := .slice (some ⟨w.heap.size, 0, none⟩) len len) (w' := w.alloc (.cells cells (E.el T))) rfl hpos (grownBy_alloc w _) (fun b hb => Nat.le_of_eq (by simpa [baseOf] using hb)) ?_ ?_ (by rw [List.length_map, hvl, hxl']) ?_
      · simp [execOp, ho, hrun]
      · rw [List.nil_append] at c2
        refine ⟨by rw [← c2, hcl, hxl'], .inr ⟨w.heap.size, len, cells, by rw [hxl'], Nat.zero_le _, alloc_last w cells _, by omega, hmax, by rw [← Array.length_toList]; exact Nat.le_of_eq hcl.symm, ?_⟩⟩
        rw [hxl', ← hcl, List.take_length, c2]
      · intro j x d hx' hd'
        rw [List.getElem?_map] at hd'
        obtain ⟨q, hq', rfl⟩ := Option.map_eq_some_iff.1 hd'
        exact (hx j q x hq' hx').2.2
    · cases h
  · cases h
end
end Go.AM
end

section
namespace Go.AM
open RowKit

section
variable {P : Program} {w : World} {X : Un} {E : Env}

/-- what is appended to an owned row -/
def AppOK (P : Program) (w : World) (t u ty e : TypeId) (size room : Nat) (yv : Value) (news : List Value) (m : Nat) : Prop :=
  ∀ (v : Value) (n : Nat) (xs : List Value), w.ownsC 0 e size v n xs → n + m ≤ room →
    ∃ v' w', (Builtin.append_ #[t, u] ty #[v, yv]).run P w = .ok v' w' ∧ w'.ownsC 0 e size v' (n + m) (xs ++ news) ∧ w.grownBy w' v.ownBlock ∧ (v'.ownBlock = v.ownBlock ∨ (v'.ownBlock = some w.heap.size ∧ w.grownBy w' none))

/-- what is grown into a new block -/
theorem grown_C {e : TypeId} {i : TypeInfo} {z : Value} {xs news : List Value} {n m : Nat} (hzs : z.cells.size = i.size) (hx : xs.length = n * i.size) (hl : news.length = m * i.size) (h63 : n + m ≤ maxLen) (old : Nat) (row : Option Nat) :
    (w.drew.alloc (.cells (xs.toArray ++ news.toArray ++ Builtin.zeroCells z.cells (grownCap w (n + m) old e - (n + m))) e)).ownsC 0 e i.size (.slice (some ⟨w.heap.size, 0, none⟩) (n + m) (grownCap w (n + m) old e)) (n + m) (xs ++ news) ∧
      w.grownBy (w.drew.alloc (.cells (xs.toArray ++ news.toArray ++ Builtin.zeroCells z.cells (grownCap w (n + m) old e - (n + m))) e)) row := by
  have hge := grownCap_ge w (n + m) old e
  have hcm : grownCap w (n + m) old e ≤ maxLen := grownCap_le_maxLen w (n + m) old e h63
  have hlen : (xs ++ news).length = (n + m) * i.size := by rw [List.length_append, hx, hl, Nat.add_mul]
  refine ⟨⟨hlen, .inr ⟨w.heap.size, _, _, rfl, Nat.zero_le _, heap_alloc_new w.drew _, hge, hcm, ?_, ?_⟩⟩, ⟨rfl, rfl, rfl, by simp, fun k hk _ => heap_alloc_old w.drew _ k hk⟩⟩
  · refine Nat.le_of_eq ?_
    simp only [Array.size_append, List.size_toArray, size_zeroCells, hzs, hx, hl, ← Nat.add_mul]
    congr 1
    omega
  · simp only [Array.toList_append, List.append_assoc]
    rw [← List.append_assoc, ← hlen]
    exact List.take_left

theorem append_C {t ty e : TypeId} {i : TypeInfo} {z : Value} {size room : Nat} (ht : P.underlying t = some (.slice e)) (hi : P.info? e = some i) (hz : i.zero = some z) (hsize : i.size = size) (hzs : z.cells.size = size) (hsz : 0 < size) (u3 : room * i.bytes ≤ 140737488355328) (u4 : room ≤ maxLen)
    {a : Addr} {m c : Nat} {news : List Value} (hl : news.length = m * size) (hnews : ∀ j u, news[j]? = some u → w.cell? (a.add j) = some u) (h1 : ∀ u ∈ news, u.oneCell' = true) : AppOK P w t t ty e size room (.slice (some a) m c) news m := by
  subst hsize
  intro v n xs hown hn
  have h63 : n + m ≤ maxLen := Nat.le_trans hn u4
  have hsmall : n + m ≤ 9223372036854775807 := by simpa [maxLen] using h63
  have hb : (n + m) * i.bytes ≤ 140737488355328 := Nat.le_trans (Nat.mul_le_mul_right _ hn) u3
  have hlen : (xs ++ news).length = (n + m) * i.size := by rw [List.length_append, hown.1, hl, Nat.add_mul]
  rcases hown.2 with ⟨rfl, rfl⟩ | ⟨g, cap, cur, rfl, k1, k2, k3, k4, k5, k6⟩
  · have hx : xs = [] := List.eq_nil_of_length_eq_zero (by simpa using hown.1)
    subst hx
    by_cases hm : m = 0
    · subst hm
      have hnw : news = [] := List.eq_nil_of_length_eq_zero (by simpa using hl)
      subst hnw
      refine ⟨.slice none 0 0, w, ?_, World.ownsC_nil w 0 e i.size, ⟨rfl, rfl, rfl, Nat.le_refl _, fun _ _ _ => rfl⟩, .inl rfl⟩
      simp [Builtin.append_, run_underlying ht, sizeOf, typeInfo, hi, Builtin.lenOf, Builtin.firstCells, loadCells, loadCellsFrom]
    · have hr := run_append_nil (P := P) w t ty e i z ht hi hz a m c news hl hnews (by omega) (by omega) (by simp only [Nat.zero_add] at hb; omega)
      have hgr := grown_C (w := w) (e := e) (n := 0) (xs := []) hzs (by simp) hl h63 0 none
      simp only [Nat.zero_add, List.nil_append, Array.empty_append] at hgr ⊢
      exact ⟨_, _, hr, hgr.1, ⟨hgr.2.os, hgr.2.tape, hgr.2.output, hgr.2.size, fun k hk hne => hgr.2.block k hk (by simp)⟩, .inr ⟨rfl, hgr.2⟩⟩
  · by_cases hroom : n + m ≤ cap
    · have hfit : n * i.size + news.length ≤ cur.size := by rw [hl, ← Nat.add_mul]; exact Nat.le_trans (Nat.mul_le_mul_right _ hroom) k5
      have hr := run_append_room (P := P) w t ty e i ht hi g n cap cur k2 a m c news hl hnews h1 hroom hfit
      refine ⟨_, _, hr, ⟨hlen, .inr ⟨g, cap, _, rfl, k1, setRow_heap w g cur _ e _ k2, hroom, k4, ?_, ?_⟩⟩, ⟨rfl, rfl, rfl, by simp, fun k _ hk => setRow_other w g k _ (fun e => hk (by simp [Value.ownBlock, e]))⟩, .inl rfl⟩
      · simp only [List.size_toArray, List.length_append, List.length_take, List.length_drop, Array.length_toList]
        omega
      · rw [k6, ← hlen]
        exact List.take_left
    · have holds : ∀ j u, xs[j]? = some u → w.cell? ((⟨g, 0, none⟩ : Addr).add j) = some u := hown.cells (g := g) rfl
      have hr := run_append_grow (P := P) w t ty e i z ht hi hz ⟨g, 0, none⟩ n cap xs hown.1 holds a m c news hl hnews (by omega) (by omega) (growslice_fits (by omega) hb)
      have hgr := grown_C (w := w) (e := e) hzs hown.1 hl h63 cap none
      exact ⟨_, _, hr, hgr.1, ⟨hgr.2.os, hgr.2.tape, hgr.2.output, hgr.2.size, fun k hk hne => hgr.2.block k hk (by simp)⟩, .inr ⟨rfl, hgr.2⟩⟩

theorem app_slice {t ty e : TypeId} {s : Ty} {i : TypeInfo} {room : Nat} (u1 : P.underlying t = some (.slice e)) (u2 : P.info? e = some i) (hk : TOK P e s) (hpos : 0 < s.size) (u3 : room * i.bytes ≤ 140737488355328) (u4 : room ≤ maxLen)
    {ys : List (Den s)} {yv : Value} (h : RV P (.slice s) w X ys yv) :
    ∃ css : List (List Value), AppOK P w t t ty e s.size room yv css.flatten ys.length ∧ css.length = ys.length ∧ ∀ (i : Nat) (x : Den s) (d : List Value), ys[i]? = some x → css[i]? = some d → RD P s w X x d := by
  obtain ⟨i', z, i1, i2, i3, i4, i5⟩ := hk
  rw [u2] at i1
  simp only [Option.some.injEq] at i1
  subst i1
  have hzs : z.cells.size = s.size := by rw [← Array.length_toList]; exact RD.length s (zc_RD (P := P) (w := w) (X := X) s i5)
  obtain ⟨A, cap, rfl, h2, h3⟩ := slice_cells h
  have main : ∀ (a : Addr) (css : List (List Value)), A = some a → a.spot = none → css.length = ys.length → (∀ d ∈ css, d.length = s.size) → (∀ v ∈ css.flatten, v.oneCell' = true) → cellsAt w X a.block a.off css.flatten → AppOK P w t t ty e s.size room (.slice A ys.length cap) css.flatten ys.length := by
    intro a css ha hs hl hd h1 hc
    subst ha
    exact append_C u1 u2 i3 i2 hzs hpos u3 u4 (by rw [sum_const hd, hl]) (cellsAt.run hs hc) h1
  rcases h3 with rfl | ⟨a, css, ha, hs, k1, k2, k3, k4⟩
  · cases A with
    | some a =>
      -- an address, of which nothing is known: no element
      refine ⟨[], ?_, rfl, fun i x d hx => by simp at hx⟩
      have hplain : AppOK P w t t ty e s.size room (.slice (some a) 0 cap) [] 0 := append_C u1 u2 i3 i2 hzs hpos u3 u4 (by simp) (by simp) (by simp)
      exact hplain
    | none =>
      refine ⟨[], ?_, rfl, fun i x d hx => by simp at hx⟩
      intro v n xs hown hn
      refine ⟨v, w, ?_, by simpa using hown, grownBy_refl w _, .inl rfl⟩
      rcases hown.2 with ⟨rfl, rfl⟩ | ⟨g, c, cur, rfl, k1, k2, k3, k4, k5, k6⟩
      · simp [Builtin.append_, run_underlying u1, sizeOf, typeInfo, u2, Builtin.lenOf, Builtin.firstCells]
      · simp [Builtin.append_, run_underlying u1, sizeOf, typeInfo, u2, Builtin.lenOf, Builtin.firstCells, k3, storeCells]
  · have hone : ∀ v ∈ css.flatten, v.oneCell' = true := by
      intro v hv
      obtain ⟨d, hd, hv⟩ := List.mem_flatten.1 hv
      obtain ⟨j, hj, rfl⟩ := List.getElem_of_mem hd
      exact RD.one s (k4 j _ _ (List.getElem?_eq_getElem (by omega)) (List.getElem?_eq_getElem hj)) v hv
    exact ⟨css, main a css ha hs k1 k2 hone k3, k1, k4⟩

theorem app_str {t u ty e : TypeId} {i : TypeInfo} {room : Nat} (u1 : P.underlying t = some (.slice e)) (hu : P.underlying u = some .string) (u2 : P.info? e = some i) (hk : TOK P e (.int .u8)) (hb1 : i.bytes = 1) (u3 : room * i.bytes ≤ 140737488355328) (u4 : room ≤ maxLen)
    (s : ByteArray) : ∃ css : List (List Value), AppOK P w t u ty e 1 room (.string s) css.flatten (bytesOf s).length ∧ css.length = (bytesOf s).length ∧ ∀ (i : Nat) (x : Int) (d : List Value), (bytesOf s)[i]? = some x → css[i]? = some d → RD P (.int .u8) w X x d := by
  obtain ⟨i', z, i1, i2, i3, i4, i5⟩ := hk
  rw [u2] at i1
  simp only [Option.some.injEq] at i1
  subst i1
  have hz : z = .int .u8 0 := RV.int_inv (P := P) (w := w) (X := X) ⟨i4, i5⟩
  subst hz
  have hlen : (bytesOf s).length = s.size := by simp [bytesOf]
  have hcss : ((bytesOf s).map fun n => [Value.int .u8 n]).flatten = Lib.strCells s := by
    unfold bytesOf Lib.strCells
    induction s.data.toList with
    | nil => rfl
    | cons b l ih => simp only [List.map_cons, List.flatten_cons, ih, List.cons_append, List.nil_append]
  refine ⟨(bytesOf s).map fun n => [Value.int .u8 n], ?_, by simp, fun i x d hx hd => ?_⟩
  · rw [hcss, hlen]
    intro v n xs hown hn
    have hb : n + s.size ≤ 140737488355328 := by rw [hb1] at u3; omega
    have h63 : n + s.size ≤ maxLen := Nat.le_trans hn u4
    have hml : n + s.size ≤ 9223372036854775807 := by simpa [maxLen] using h63
    have hxl : xs.length = n := by simpa using hown.1
    have hsc : (Lib.strCells s).length = s.size * i.size := by rw [i2]; simp [Lib.strCells_length, Ty.size]
    have hx1 : xs.length = n * i.size := by rw [i2]; simpa [Ty.size] using hxl
    have hsz1 : i.size = 1 := by rw [i2]; rfl
    have hlen : (xs ++ Lib.strCells s).length = (n + s.size) * 1 := by rw [List.length_append, hxl, Lib.strCells_length, Nat.mul_one]
    rcases hown.2 with ⟨rfl, rfl⟩ | ⟨g, cap, cur, rfl, k1, k2, k3, k4, k5, k6⟩
    · have hx : xs = [] := List.eq_nil_of_length_eq_zero (by simpa using hown.1)
      subst hx
      by_cases hm : s.size = 0
      · obtain ⟨v', w', r1, r2, r3, r4⟩ := Lib.run_append_own_string (P := P) w 0 t u ty e i u1 hu u2 i3 i2 hb1 (.slice none 0 0) 0 [] (World.ownsRow_nil w 0 e 1) s h63 hb (Nat.zero_le _)
        have := r4.2 ⟨rfl, hm⟩
        subst this
        exact ⟨_, _, r1, r2.toC, r3, .inl rfl⟩
      · have hr := run_append_nil_string (P := P) w t u ty e i (.int .u8 0) u1 hu u2 i3 s (by omega) (by omega) (by rw [hb1]; omega)
        obtain ⟨v', w', r1, r2, r3, r4⟩ := Lib.run_append_own_string (P := P) w 0 t u ty e i u1 hu u2 i3 i2 hb1 (.slice none 0 0) 0 [] (World.ownsRow_nil w 0 e 1) s h63 hb (Nat.zero_le _)
        refine ⟨v', w', r1, r2.toC, r3, ?_⟩
        rw [r1] at hr
        simp only [Result.ok.injEq] at hr
        rw [hr.1, hr.2]
        exact .inr ⟨rfl, ⟨rfl, rfl, rfl, by simp, fun k hk _ => heap_alloc_old w.drew _ k hk⟩⟩
    · by_cases hroom : n + s.size ≤ cap
      · have hr := Lib.run_append_room_string (P := P) w t u ty e i u1 hu u2 i2 g n cap cur k2 s hroom (by omega)
        refine ⟨_, _, hr, ⟨hlen, .inr ⟨g, cap, _, rfl, k1, setRow_heap w g cur _ e _ k2, hroom, k4, ?_, ?_⟩⟩, ⟨rfl, rfl, rfl, by simp, fun k _ hk => setRow_other w g k _ (fun e => hk (by simp [Value.ownBlock, e]))⟩, .inl rfl⟩
        · simp only [List.size_toArray, List.length_append, List.length_take, List.length_drop, Array.length_toList, Lib.strCells_length]
          omega
        · have k6' : cur.toList.take n = xs := by simpa using k6
          rw [k6', ← hlen]
          exact List.take_left
      · have holds : ∀ j u, xs[j]? = some u → w.cell? ((⟨g, 0, none⟩ : Addr).add j) = some u := hown.cells (g := g) rfl
        have hr := Lib.run_append_grow_string (P := P) w t u ty e i (.int .u8 0) u1 hu u2 i3 ⟨g, 0, none⟩ n cap xs hx1 holds s (by omega) (by omega) (by rw [hb1]; exact growslice_fits (by omega) (by omega))
        have hgr := grown_C (w := w) (e := e) (i := i) (z := .int .u8 0) (by rw [hsz1]; rfl) hx1 hsc h63 cap none
        rw [hsz1] at hgr
        exact ⟨_, _, hr, hgr.1, ⟨hgr.2.os, hgr.2.tape, hgr.2.output, hgr.2.size, fun k hk hne => hgr.2.block k hk (by simp)⟩, .inr ⟨rfl, hgr.2⟩⟩
  · rw [List.getElem?_map, hx] at hd
    simp only [Option.map_some, Option.some.injEq] at hd
    subst hd
    rfl
end

section
variable {P : Program} {IoS : Nat → Prop} {w0 : World} {X0 : Un} {γ : Id → Value} {S : St} {a : Act} {w : World} {E : Env} {o : Oper} {x : AV} {σ' : Store}

theorem appended_ok (hE : EnvOK P E) (hr : Rel P IoS w0 X0 γ S a w) {s : Ty} {t u ty : TypeId} {y : AV} {yv : Value} {ys : List (Den s)} (hT : E.ty t = some (.slice s)) (h : (appended E s t u y).ex S.o = some (ys, σ')) (hy : VR P w (unst X0 S.o γ) S.o γ y yv) :
    DOut P IoS w0 X0 γ a w true S σ' ∧ ∃ css : List (List Value), AppOK P w t u ty (E.el t) s.size (E.room t) yv css.flatten ys.length ∧ css.length = ys.length ∧ ∀ (i : Nat) (x : Den s) (d : List Value), ys[i]? = some x → css[i]? = some d → RD P s w (unst X0 σ' γ) x d := by
  obtain ⟨_, hpos, _⟩ := hE.ty _ _ hT
  obtain ⟨i, u1, u2, hk, hb1, u3, u4⟩ := hE.sl _ _ hT
  unfold appended at h
  split at h
  · rename_i e
    subst e
    obtain ⟨hd, hv⟩ := data_VR hE hr h hy
    exact ⟨hd, app_slice u1 u2 hk hpos u3 u4 hv⟩
  · split at h
    · rename_i hTu
      obtain ⟨z, hz, h⟩ := opt_ex h
      obtain ⟨q, hq, h⟩ := opt_ex h
      obtain ⟨rfl, rfl⟩ := ret_ex h
      have e := RV.str_inv (as_VR hz hy)
      subst e
      have hs : ∃ e : s = .int .u8, q = e ▸ bytesOf z := by
        cases s with
        | int k =>
          cases k <;> first
            | (cases hq; done)
            | (have h' : some (bytesOf z) = some q := hq
               simp only [Option.some.injEq] at h'
               exact ⟨rfl, h'.symm⟩)
        | _ => cases hq
      obtain ⟨rfl, rfl⟩ := hs
      exact ⟨DOut.refl hr, app_str u1 (hE.ty _ _ hTu).2 u2 hk (hb1 rfl) u3 u4 z⟩
    · cases h

theorem sim_append (hE : EnvOK P E) (hr : Rel P IoS w0 X0 γ S a w) {c : Call} {t u : TypeId} {y z : Operand} (ho : o.op = .call c) (hc : c.callee = .builtin .append) (ht : c.argTypes = #[t, u]) (hy : c.args = #[y, z])
    (h : (builtin E .append [t, u] (E.al (o.dst.getD 0)) [opd S.f y, opd S.f z]).ex S.o = some (x, σ')) : Sim P IoS w0 X0 S a w o x σ' := by
  simp only [builtin] at h
  split at h
  · rename_i s hT
    obtain ⟨ys, σ1, h1, h2⟩ := Pr.ex_bind_some h
    clear h
    obtain ⟨hd, css, hap, hcl, hcx⟩ := appended_ok (ty := o.type) hE hr hT h1 (hr.opd z)
    obtain ⟨_, hpos, _⟩ := hE.ty _ _ hT
    have hv := (hr.opd y).mono hd.ext
    have hrun : ∀ v' w', (Builtin.append_ #[t, u] o.type #[a.eval y, a.eval z]).run P w = .ok v' w' → (execOp a.eval o).run P w = .ok (.value v') w' := by
      intro v' w' hrun
      refine exec_builtin ho hc ?_
      simp [Go.builtin, ht, hy, hrun]
    split at h2
    · rename_i hx
      rcases ite_ex h2 with ⟨hroom, h2⟩ | ⟨_, h2⟩
      · have h3 := next_ex h2
        have h4 := put_ex h3
        obtain ⟨rfl, rfl⟩ := ret_ex h4
        rw [hx] at hv
        have hv' : a.eval y = .slice none 0 0 := hv
        have hroom' : ys.length ≤ E.room t := by simpa using hroom
        obtain ⟨v', w', r1, r2, r3, r4⟩ := hap (.slice none 0 0) 0 [] (World.ownsC_nil w 0 (E.el t) s.size) (by omega)
        rw [← hv'] at r1
        refine newRow_sim (S := ⟨S.f, σ1⟩) hd.rel rfl hpos r3 ?_ (hrun _ _ r1) (by simpa using r2) hcl hcx
        intro b hb
        have hob : v'.ownBlock = some b := by rcases r2.2 with ⟨rfl, _⟩ | ⟨g, cap, cur, rfl, _⟩ <;> simpa [baseOf, Value.ownBlock] using hb
        rcases r4 with r4 | ⟨r4, _⟩
        · rw [hob] at r4; cases r4
        · rw [hob] at r4
          simp only [Option.some.injEq] at r4
          omega
      · cases h2
    · rename_i i n hx
      obtain ⟨ob, hi, g0⟩ := get_ex h2
      clear h2
      split at g0
      · rename_i e s' xs n' sh
        split at g0
        · rename_i hcond
          simp only [Bool.and_eq_true, decide_eq_true_eq] at hcond
          obtain ⟨rfl, rfl⟩ := hcond
          obtain ⟨xs', hxs, g5⟩ := opt_ex g0
          clear g0
          obtain ⟨e', hxs'⟩ := cast?_some hxs
          cases e'
          replace hxs' : xs' = xs := hxs'
          subst hxs'
          rcases ite_ex g5 with ⟨hroom, g6⟩ | ⟨_, g6⟩
          · have h4 := put_ex g6
            obtain ⟨rfl, rfl⟩ := ret_ex h4
            have hroom' : xs'.length + ys.length ≤ E.room t := by simpa using hroom
            rw [hx] at hv
            have hr1 := hd.rel
            obtain ⟨ob', val, g1, g2, g3, g4⟩ := hv
            rw [hi] at g1
            simp only [Option.some.injEq] at g1
            subst g1
            simp only [List.cons.injEq, and_true] at g3
            have hval := (g4 rfl).1
            obtain ⟨cells, css0, q1, q2, q3, q4, q5⟩ := hr1.obs i _ hi
            rw [← hval, ← g3] at q1
            obtain ⟨v', w', r1, r2, r3, r4⟩ := hap (a.eval y) xs'.length cells q1 hroom'
            have hγ : γ i = a.eval y := by rw [g3, hval]
            have hbase : ∀ (v : Value) (m : Nat) (ws : List Value) (W : World), W.ownsC 0 (E.el t) s.size v m ws → baseOf v = v.ownBlock := by
              intro v m ws W hW
              rcases hW.2 with ⟨rfl, _⟩ | ⟨g, cap, cur, rfl, _⟩ <;> rfl
            have hb1 := hbase _ _ _ _ q1
            have hb2 := hbase _ _ _ _ r2
            have hun : ∀ k, (xs' ++ ys).length * s.size ≤ k → xs'.length * s.size ≤ k := by
              intro k hk
              rw [List.length_append, Nat.add_mul] at hk
              omega
            have t1 : Turn P X0 γ σ1 w i (.arr (E.el t) s (xs' ++ ys) (n' + 1) sh) v' w' := {
              row := ⟨(a.eval y).ownBlock, r3, fun b hb => ⟨_, hi, by rw [hγ, hb1]; exact hb⟩⟩
              ver := by
                intro ob0 h0
                rw [hi] at h0
                simp only [Option.some.injEq] at h0
                subst h0
                exact ⟨Nat.le_succ _, fun e => by simp only [Ob.ver] at e; omega⟩
              base := by
                intro b hb
                have hlt : b < w'.heap.size := (r2.lt b (by rw [← hb2]; exact hb)).2
                rw [hb2] at hb
                rcases r4 with r4 | r4
                · exact ⟨.inl ⟨_, hi, by rw [hγ, hb1, ← r4]; exact hb⟩, hlt⟩
                · replace r4 := r4.1
                  rw [hb] at r4
                  simp only [Option.some.injEq] at r4
                  exact ⟨.inr (Nat.le_of_eq r4.symm), hlt⟩
              un := by
                intro b k hb hlt hu
                rw [hb2] at hb
                rcases r4 with r4 | r4
                · exact ⟨_, hi, by rw [hγ, hb1, ← r4]; exact hb, fun hs => hun k (hu hs)⟩
                · replace r4 := r4.1
                  rw [hb] at r4
                  simp only [Option.some.injEq] at r4
                  omega
              cell := by
                intro ob0 b k h0 hb hu
                rw [hi] at h0
                simp only [Option.some.injEq] at h0
                subst h0
                have hk : k < xs'.length * s.size := by
                  rcases Nat.lt_or_ge k (xs'.length * s.size) with h | h
                  · exact h
                  · exact absurd (fun _ => h) hu
                rw [hγ, hb1] at hb
                have hlen : cells.length = xs'.length * s.size := q1.1
                have hck : cells[k]? = some (cells[k]'(by omega)) := List.getElem?_eq_getElem (by omega)
                have c1 := q1.cells (g := b) hb k _ hck
                rw [Addr.add_plain] at c1
                rw [c1]
                rcases r4 with r4 | r4
                · have c2 := r2.cells (g := b) (by rw [r4]; exact hb) k _ (by rw [List.getElem?_append_left (by omega)]; exact hck)
                  rw [Addr.add_plain] at c2
                  exact c2
                · have hlt : b < w.heap.size := (q1.lt b hb).2
                  rw [World.cell?_of_block (r4.2.block b hlt (by simp))]
                  exact c1 }
            refine Sim.turn (S := ⟨S.f, σ1⟩) hr1 t1 (.inl (hrun _ _ r1)) ?_ ?_
            · have hx1 := (t1.ext hr1).le
              refine ⟨cells ++ css.flatten, css0 ++ css, by rw [List.length_append]; exact r2, hpos, by rw [q3]; simp, by simp [q4, hcl], fun j x d hx' hd' => ?_⟩
              by_cases hj : j < xs'.length
              · rw [List.getElem?_append_left hj] at hx'
                rw [List.getElem?_append_left (by omega)] at hd'
                exact RD.mono s (q5 j x d hx' hd') hx1
              · rw [List.getElem?_append_right (by omega)] at hx'
                rw [List.getElem?_append_right (by omega)] at hd'
                rw [q4] at hd'
                exact RD.mono s (hcx _ x d hx' hd') hx1
            · have hone : v'.oneCell' = true := by rcases r2.2 with ⟨rfl, _⟩ | ⟨g, cap, cur, rfl, _⟩ <;> rfl
              exact ⟨.arr (E.el t) s (xs' ++ ys) (n' + 1) sh, v', by simp [Store.set_get], ⟨Nat.le_refl _, hone⟩, rfl, fun _ => ⟨by simp [upd1], _, _, _, _, _, rfl⟩⟩
          · cases g6
        · cases g0
      · cases g0
    · cases h2
  · cases h
end
end Go.AM
end

section
namespace Go.AM
open RowKit

section
variable {P : Program} {IoS : Nat → Prop} {w0 : World} {X0 : Un} {γ : Id → Value} {a : Act} {w : World} {E : Env} {o : Oper} {x : AV} {σ' : Store}

def Al {α β : Type} (R : α → β → Prop) : List α → List β → Prop
  | [], [] => True
  | x :: l, y :: r => R x y ∧ Al R l r
  | _, _ => False
theorem Al.imp {α β : Type} {R R' : α → β → Prop} (h : ∀ x y, R x y → R' x y) : ∀ {l : List α} {r : List β}, Al R l r → Al R' l r
  | [], [], _ => trivial
  | x :: l, y :: r, k => ⟨h _ _ k.1, Al.imp h k.2⟩
  | [], _ :: _, k => k.elim
  | _ :: _, [], k => k.elim
theorem Al.map {ι α β : Type} {R : α → β → Prop} {f : ι → α} {g : ι → β} (l : List ι) (h : ∀ x ∈ l, R (f x) (g x)) : Al R (l.map f) (l.map g) := by
  induction l with
  | nil => trivial
  | cons x l ih => exact ⟨h x (List.mem_cons_self ..), ih fun y hy => h y (List.mem_cons_of_mem _ hy)⟩
theorem Al.get {α β : Type} {R : α → β → Prop} : ∀ {l : List α} {r : List β}, Al R l r → r.length = l.length ∧ ∀ (i : Nat) (x : α) (y : β), l[i]? = some x → r[i]? = some y → R x y
  | [], [], _ => ⟨rfl, fun i x y hx => by simp at hx⟩
  | x :: l, y :: r, k => by
    obtain ⟨h1, h2⟩ := Al.get k.2
    refine ⟨by simp [h1], fun i x' y' hx hy => ?_⟩
    cases i with
    | zero => simp at hx hy; subst hx; subst hy; exact k.1
    | succ i => exact h2 i x' y' (by simpa using hx) (by simpa using hy)
  | [], _ :: _, k => k.elim
  | _ :: _, [], k => k.elim

theorem argsData_ok (hE : EnvOK P E) {m : Bool} : (l : List AV) → ∀ {S : St} {t : Ty} {y : Den t} {vs : List Value} {σ' : Store}, Rel P IoS w0 X0 γ S a w → (argsData E m t l).ex S.o = some (y, σ') → Al (VR P w (unst X0 S.o γ) S.o γ) l vs →
    DOut P IoS w0 X0 γ a w m S σ' ∧ ∃ ds, Spl t vs ds ∧ RD P t w (Yof m X0 σ' γ) y ds
  | [], S, t, y, vs, σ', hr, h, hv => by
    cases vs with
    | cons => exact hv.elim
    | nil =>
      cases t with
      | unit =>
        obtain ⟨rfl, rfl⟩ := ret_ex (show (Pr.ret ()).ex S.o = some (y, σ') from h)
        exact ⟨DOut.refl hr, [], ⟨rfl, rfl⟩, rfl⟩
      | _ => cases h
  | x :: l, S, t, y, vs, σ', hr, h, hv => by
    cases vs with
    | nil => exact hv.elim
    | cons v vs =>
      cases t with
      | pair t1 t2 =>
        obtain ⟨y1, σ1, h1, h2⟩ := Pr.ex_bind_some (show ((x.data E m deep t1).bind fun y => (argsData E m t2 l).bind fun z => .ret (y, z)).ex S.o = some (y, σ') from h)
        obtain ⟨y2, σ2, h3, h4⟩ := Pr.ex_bind_some h2
        obtain ⟨rfl, rfl⟩ := ret_ex h4
        obtain ⟨d1, v1⟩ := data_VR hE hr h1 hv.1
        obtain ⟨d2, ds, s2, r2⟩ := argsData_ok hE l (S := ⟨S.f, σ1⟩) d1.rel h3 (hv.2.imp fun x y h => h.mono d1.ext)
        exact ⟨d1.trans d2, v.cells.toList ++ ds, ⟨v, vs, ds, rfl, rfl, v1.1, by rw [← Array.length_toList]; exact RD.length t1 v1.2, s2⟩, ⟨_, _, rfl, RD.mono t1 v1.2 (Yof_ext d2.ext), r2⟩⟩
      | _ => cases h

/-- the results of a call, as values -/
theorem resAVs_shape {w' : World} {Z : Un} {B : Nat} : (k : Nat) → (t : Ty) → ∀ {fr : List (Option TypeId)} {d : Id} {y : Den t} {rs : List Value} {l : List AV} {σ σ' : Store}, (resAVs k t fr d y).ex σ = some (l, σ') → ResR P w' Z B k t fr y rs → (fr.filter (·.isSome)).length ≤ 1 →
    l.length = rs.length ∧
    ((σ' = σ ∧ ∀ (i : Nat) (x : AV) (v : Value), l[i]? = some x → rs[i]? = some v → ∃ t y, x = .v t y ∧ RV P t w' Z y v) ∨
     (∃ j e t xs n v, σ' = σ.set j (.arr e t xs n false) ∧ (n = match σ j with | some b => b.ver + 1 | none => 0) ∧ v ∈ frV fr rs ∧ fr.any (·.isSome) = true ∧ OwnV P w' Z B e t xs v ∧
        ∀ (i : Nat) (x : AV) (u : Value), l[i]? = some x → rs[i]? = some u → (∃ t y, x = .v t y ∧ RV P t w' Z y u) ∨ (x = .own j n ∧ u = v)))
  | 0, t, fr, d, y, rs, l, σ, σ', h, hr, hf => by
    have h' : (Pr.ret ([] : List AV)).ex σ = some (l, σ') := by cases t <;> exact h
    obtain ⟨rfl, rfl⟩ := ret_ex h'
    cases t with
    | unit => rw [show rs = [] from hr]; exact ⟨rfl, .inl ⟨rfl, fun i x v hx => by simp at hx⟩⟩
    | _ => exact hr.elim
  | 1, t, fr, d, y, rs, l, σ, σ', h, hr, hf => by
    obtain ⟨v, rfl, ho⟩ := hr
    have h' : ((resAV (fr.head?.join) d t y).bind fun y => .ret [y]).ex σ = some (l, σ') := by cases t <;> exact h
    obtain ⟨z, σ1, h1, h2⟩ := Pr.ex_bind_some h'
    obtain ⟨rfl, rfl⟩ := ret_ex h2
    refine ⟨rfl, ?_⟩
    cases hfr : fr.head?.join with
    | none =>
      rw [hfr] at h1 ho
      obtain ⟨rfl, rfl⟩ := ret_ex (show (Pr.ret (AV.v t y)).ex σ = some (z, σ1) by cases t <;> exact h1)
      refine .inl ⟨rfl, fun i x u hx hu => ?_⟩
      cases i with
      | zero => simp at hx hu; subst hx; subst hu; exact ⟨t, y, rfl, ho⟩
      | succ i => simp at hx
    | some e =>
      rw [hfr] at h1 ho
      have hmem : ∃ fr', fr = some e :: fr' := by
        cases fr with
        | nil => cases hfr
        | cons a fr' => have : a = some e := by simpa using hfr
                        exact ⟨fr', by rw [this]⟩
      obtain ⟨fr', rfl⟩ := hmem
      cases t with
      | slice s =>
        have h3 := next_ex (show (Pr.next d fun n => .put d (.arr e s y n false) (.ret (.own d n))).ex σ = some (z, σ1) from h1)
        have h4 := put_ex h3
        obtain ⟨rfl, rfl⟩ := ret_ex h4
        refine .inr ⟨d, e, s, y, _, v, rfl, rfl, by simp [frV], by simp, ho, fun i x u hx hu => ?_⟩
        cases i with
        | zero => simp at hx hu; subst hx; subst hu; exact .inr ⟨rfl, rfl⟩
        | succ i => simp at hx
      | _ =>
        obtain ⟨rfl, rfl⟩ := ret_ex (show (Pr.ret (AV.v _ y)).ex σ = some (z, σ1) from h1)
        refine .inl ⟨rfl, fun i x u hx hu => ?_⟩
        cases i with
        | zero => simp at hx hu; subst hx; subst hu; exact ⟨_, y, rfl, ho⟩
        | succ i => simp at hx
  | k + 2, t, fr, d, y, rs, l, σ, σ', h, hr, hf => by
    cases t with
    | pair t1 t2 =>
      obtain ⟨v, rs, rfl, ho, hrs⟩ := hr
      obtain ⟨z, σ1, h1, h2⟩ := Pr.ex_bind_some (show ((resAV (fr.head?.join) d t1 y.1).bind fun x => (resAVs (k + 1) t2 fr.tail (d + 1000) y.2).bind fun l => .ret (x :: l)).ex σ = some (l, σ') from h)
      obtain ⟨l, σ2, h3, h4⟩ := Pr.ex_bind_some h2
      obtain ⟨rfl, rfl⟩ := ret_ex h4
      have plain : ∀ (hz : z = .v t1 y.1) (hσ : σ = σ1) (hv : RV P t1 w' Z y.1 v), (fr.tail.filter (·.isSome)).length ≤ 1 → (∀ u, u ∈ frV fr.tail rs → u ∈ frV fr (v :: rs)) → (fr.tail.any (·.isSome) = true → fr.any (·.isSome) = true) →
          (z :: l).length = (v :: rs).length ∧
          ((σ2 = σ ∧ ∀ (i : Nat) (x : AV) (u : Value), (z :: l)[i]? = some x → (v :: rs)[i]? = some u → ∃ t y, x = .v t y ∧ RV P t w' Z y u) ∨
           (∃ j e t xs n u', σ2 = σ.set j (.arr e t xs n false) ∧ (n = match σ j with | some b => b.ver + 1 | none => 0) ∧ u' ∈ frV fr (v :: rs) ∧ fr.any (·.isSome) = true ∧ OwnV P w' Z B e t xs u' ∧
              ∀ (i : Nat) (x : AV) (u : Value), (z :: l)[i]? = some x → (v :: rs)[i]? = some u → (∃ t y, x = .v t y ∧ RV P t w' Z y u) ∨ (x = .own j n ∧ u = u'))) := by
        intro hz hσ hv htail hmem hany
        subst hz; subst hσ
        obtain ⟨g1, g2⟩ := resAVs_shape (k + 1) t2 h3 hrs htail
        refine ⟨by simp [g1], ?_⟩
        rcases g2 with ⟨q1, q2⟩ | ⟨j, e, t, xs, n, u', q1, q2, q3, q4, q5, q6⟩
        · refine .inl ⟨q1, fun i x u hx hu => ?_⟩
          cases i with
          | zero => simp at hx hu; subst hx; subst hu; exact ⟨t1, y.1, rfl, hv⟩
          | succ i => exact q2 i x u (by simpa using hx) (by simpa using hu)
        · refine .inr ⟨j, e, t, xs, n, u', q1, q2, hmem u' q3, hany q4, q5, fun i x u hx hu => ?_⟩
          cases i with
          | zero => simp at hx hu; subst hx; subst hu; exact .inl ⟨t1, y.1, rfl, hv⟩
          | succ i => exact q6 i x u (by simpa using hx) (by simpa using hu)
      cases hfr : fr.head?.join with
      | none =>
        rw [hfr] at h1 ho
        obtain ⟨e1, e2⟩ := ret_ex (show (Pr.ret (AV.v t1 y.1)).ex σ = some (z, σ1) by cases t1 <;> exact h1)
        cases fr with
        | nil => exact plain e1.symm e2 ho (by simp) (fun u hu => by cases rs <;> simp [frV] at hu) (fun h => by simp at h)
        | cons f0 fr =>
          have : f0 = none := by simpa using hfr
          subst this
          exact plain e1.symm e2 ho (by simpa using hf) (fun u hu => hu) (fun h => by simpa using h)
      | some e =>
        rw [hfr] at h1 ho
        have hmem : ∃ fr', fr = some e :: fr' := by
          cases fr with
          | nil => cases hfr
          | cons a fr' => have : a = some e := by simpa using hfr
                          exact ⟨fr', by rw [this]⟩
        obtain ⟨fr', rfl⟩ := hmem
        have hf' : fr'.any (·.isSome) = false := by
          have h0 : (fr'.filter (·.isSome)).length = 0 := by
            have h2 : ((some e :: fr').filter (·.isSome)).length = (fr'.filter (·.isSome)).length + 1 := by simp
            omega
          have h1 : fr'.filter (·.isSome) = [] := List.eq_nil_of_length_eq_zero h0
          rw [List.filter_eq_nil_iff] at h1
          simpa using h1
        have hf0 : (fr'.filter (·.isSome)).length ≤ 1 := by
          have h2 : ((some e :: fr').filter (·.isSome)).length = (fr'.filter (·.isSome)).length + 1 := by simp
          omega
        have rest : σ2 = σ1 ∧ l.length = rs.length ∧ ∀ (i : Nat) (x : AV) (u : Value), l[i]? = some x → rs[i]? = some u → ∃ t y, x = .v t y ∧ RV P t w' Z y u := by
          obtain ⟨g1, g2⟩ := resAVs_shape (k + 1) t2 h3 hrs hf0
          rcases g2 with ⟨q1, q2⟩ | ⟨j, e, t, xs, n, u', q1, q2, q3, q4, q5, q6⟩
          · exact ⟨q1, g1, q2⟩
          · have q4' : fr'.any (·.isSome) = true := q4
            rw [hf'] at q4'
            cases q4'
        obtain ⟨rfl, r1, r2⟩ := rest
        cases t1 with
        | slice s =>
          have h3 := next_ex (show (Pr.next d fun n => .put d (.arr e s y.1 n false) (.ret (.own d n))).ex σ = some (z, σ2) from h1)
          have h4 := put_ex h3
          obtain ⟨rfl, rfl⟩ := ret_ex h4
          refine ⟨by simp [r1], .inr ⟨d, e, s, y.1, _, v, rfl, rfl, by simp [frV], by simp, ho, fun i x u hx hu => ?_⟩⟩
          cases i with
          | zero => simp at hx hu; subst hx; subst hu; exact .inr ⟨rfl, rfl⟩
          | succ i => exact .inl (r2 i x u (by simpa using hx) (by simpa using hu))
        | _ =>
          obtain ⟨e1, e2⟩ := ret_ex (show (Pr.ret (AV.v _ y.1)).ex σ = some (z, σ2) from h1)
          exact plain e1.symm e2 ho hf0 (fun u hu => by simp only [frV, List.tail_cons] at hu ⊢; exact List.mem_cons_of_mem _ hu) (fun _ => by simp)
    | _ => exact hr.elim

/-- what an operation does, told of both sides: with calls -/
def SimW (P : Program) (IoS : Nat → Prop) (w0 : World) (X0 : Un) (S : St) (a : Act) (w : World) (o : Oper) (x : AV) (σ' : Store) : Prop :=
  ∀ Q : Exit → Act → World → Prop, o.wp P a w (fun a' w' => ∃ γ', Rel P IoS w0 X0 γ' ⟨putD S.f o.dst x, σ'⟩ a' w') Q
theorem Sim.simW {S : St} (h : Sim P IoS w0 X0 S a w o x σ') : SimW P IoS w0 X0 S a w o x σ' := fun Q => h.wp

theorem Below.grown {B : Nat} {w w' : World} (h : Below B w w') (hB : w.heap.size ≤ B) : w.grownBy w' none :=
  ⟨h.os, h.tape, h.output, h.size, fun b hb _ => h.block b (Nat.lt_of_lt_of_le hb hB)⟩

theorem ResR_flat {w' : World} {Z Z' : Un} {B : Nat} : (k : Nat) → (t : Ty) → t.flat = true → ∀ {fr : List (Option TypeId)} {y : Den t} {rs : List Value}, fr.any (·.isSome) = false → ResR P w' Z B k t fr y rs → ResR P w' Z' B k t fr y rs
  | 0, t, hf, fr, y, rs, hn, h => by cases t <;> exact h
  | 1, t, hf, fr, y, rs, hn, h => by
    obtain ⟨v, rfl, ho⟩ := h
    have hv := One_none hn ho
    have hj : fr.head?.join = none := by
      cases fr with
      | nil => rfl
      | cons x fr => cases x with
        | none => rfl
        | some e => simp at hn
    exact ⟨v, rfl, by rw [hj]; exact ⟨hv.1, RD.flat t hf hv.2⟩⟩
  | k + 2, t, hf, fr, y, rs, hn, h => by
    cases t with
    | pair a b =>
      simp only [Ty.flat, Bool.and_eq_true] at hf
      obtain ⟨v, rs', rfl, ho, hr⟩ := h
      have hv := One_none hn ho
      have hj : fr.head?.join = none := by
        cases fr with
        | nil => rfl
        | cons x fr => cases x with
          | none => rfl
          | some e => simp at hn
      have hn' : fr.tail.any (·.isSome) = false := by
        cases fr with
        | nil => rfl
        | cons z fr => simp only [List.any_cons, Bool.or_eq_false_iff] at hn; exact hn.2
      exact ⟨v, rs', rfl, by rw [hj]; exact ⟨hv.1, RD.flat a hf.1 hv.2⟩, ResR_flat (k + 1) b hf.2 hn' hr⟩
    | _ => exact h.elim

/-- the world after a call, and its results -/
theorem after_call {S : St} (hr : Rel P IoS w0 X0 γ S a w) {m : Bool} {σ1 : Store} (hd : DOut P IoS w0 X0 γ a w m S σ1) {Sm1 : Sm} {y : Den Sm1.outs} {w' : World} {e : Ending} (ht : Told P w (Yof m X0 σ1 γ) Sm1 y e w')
    (hfr : (Sm1.fresh.filter (·.isSome)).length ≤ 1) (hm : m = !Sm1.outs.flat) (hff : (Sm1.outs.flat && Sm1.fresh.any (·.isSome)) = false) {d : Id} {l : List AV} (hl : (resAVs Sm1.k Sm1.outs Sm1.fresh d y).ex σ1 = some (l, σ')) :
    ∃ v γ', e = .returned v ∧ Rel P IoS w0 X0 γ' ⟨S.f, σ'⟩ a w' ∧ VR P w' (unst X0 σ' γ') σ' γ' (tupOf l) v := by
  obtain ⟨rs, rfl, hb, _, hres⟩ := ht
  have hg := Below.grown hb (Nat.le_refl _)
  have hres' : ResR P w' (Xr (unst X0 σ1 γ) Sm1.fresh rs) w.heap.size Sm1.k Sm1.outs Sm1.fresh y rs := by
    cases m with
    | true => exact hres
    | false =>
      have hflat : Sm1.outs.flat = true := by simpa using hm.symm
      rw [hflat, Bool.true_and] at hff
      exact ResR_flat Sm1.k Sm1.outs hflat hff hres
  obtain ⟨hlen, hsh⟩ := resAVs_shape Sm1.k Sm1.outs hl hres' hfr
  -- from one by one to all
  have all : ∀ (γ' : Id → Value), (∀ (i : Nat) (x : AV) (u : Value), l[i]? = some x → rs[i]? = some u → VR1 P w' (unst X0 σ' γ') σ' γ' x u) → VR P w' (unst X0 σ' γ') σ' γ' (tupOf l) (resVal rs) := by
    intro γ' h
    match l, rs, hlen, h with
    | [], [], _, h => exact ⟨#[], rfl, rfl, fun i x u hx => by simp at hx⟩
    | [z], [u], _, h => exact VR.of1 (h 0 z u rfl rfl)
    | z :: z' :: l, u :: u' :: rs, hlen, h => exact ⟨(u :: u' :: rs).toArray, rfl, by simp at hlen ⊢; exact hlen.symm, fun i x v hx hv => h i x v hx (by simpa using hv)⟩
  rcases hsh with ⟨rfl, hv⟩ | ⟨j, e, t, xs, n, v, rfl, hn, hmem, hany, hown, hv⟩
  · refine ⟨resVal rs, γ, rfl, hd.rel.world hg, all γ fun i x u hx hu => ?_⟩
    obtain ⟨t, z, rfl, hz⟩ := hv i x u hx hu
    exact ⟨hz.1, RD.mono t hz.2 ⟨Nat.le_refl _, fun _ _ _ _ => rfl, fun b k _ hu => .inl hu⟩⟩
  · have hbase : baseOf v = v.ownBlock := by
      obtain ⟨cells, css, h1, _⟩ := hown
      rcases h1.2 with ⟨rfl, _⟩ | ⟨g, cap, cur, rfl, _⟩ <;> rfl
    have hblk : ∀ b, baseOf v = some b → w.heap.size ≤ b ∧ b < w'.heap.size := by
      intro b hb
      obtain ⟨cells, css, h1, _⟩ := hown
      exact h1.lt b (by rw [← hbase]; exact hb)
    have t1 : Turn P X0 γ σ1 w j (.arr e t xs n false) v w' := fresh_turn hd.rel hg hblk hn
    have hle : Le w' (Xr (unst X0 σ1 γ) Sm1.fresh rs) w' (unst X0 (σ1.set j (.arr e t xs n false)) (upd1 γ j v)) := by
      refine ⟨Nat.le_refl _, fun _ _ _ _ => rfl, fun b k _ hu => ?_⟩
      rcases hu with hu | ⟨i, ob, hi, hbi, hu⟩
      · exact .inl (.inl hu)
      · by_cases hij : i = j
        · subst hij
          simp only [upd1, if_true] at hbi
          exact .inr ⟨v, hmem, hbi⟩
        · simp only [Store.set_get, if_neg hij] at hi
          simp only [upd1, if_neg hij] at hbi
          exact .inl (.inr ⟨i, ob, hi, hbi, hu⟩)
    have hone : v.oneCell' = true := by
      obtain ⟨cells, css, h1, _⟩ := hown
      rcases h1.2 with ⟨rfl, _⟩ | ⟨g, cap, cur, rfl, _⟩ <;> rfl
    refine ⟨resVal rs, upd1 γ j v, rfl, t1.rel hd.rel ?_, all _ fun i x u hx hu => ?_⟩
    · obtain ⟨cells, css, h1, h2, h3, h4, h5⟩ := hown
      refine ⟨cells, css, ⟨h1.1, ?_⟩, h2, h3, h4, fun i x d hx hd => RD.mono t (h5 i x d hx hd) hle⟩
      rcases h1.2 with h | ⟨g, cap, cur, k0, k1, k2⟩
      · exact .inl h
      · exact .inr ⟨g, cap, cur, k0, Nat.zero_le _, k2⟩
    · rcases hv i x u hx hu with ⟨t', z, rfl, hz⟩ | ⟨rfl, rfl⟩
      · exact ⟨hz.1, RD.mono t' hz.2 hle⟩
      · exact ⟨.arr e t xs n false, u, by simp [Store.set_get], ⟨Nat.le_refl _, hone⟩, rfl, fun _ => ⟨by simp [upd1], _, _, _, _, _, rfl⟩⟩

/-- a call by its summary -/
theorem callSm_ok (hE : EnvOK P E) {S : St} (hr : Rel P IoS w0 X0 γ S a w) {Sm1 : Sm} {l : List AV} {vs : List Value} (h : (callSm E Sm1 (E.al (o.dst.getD 0)) l).ex S.o = some (x, σ')) (hv : Al (VR P w (unst X0 S.o γ) S.o γ) l vs)
    (hc : ∀ (X : Un) (x : Den Sm1.ins) (y : Den Sm1.outs) (ds : List Value), Le w (unst X0 S.o γ) w X → (∀ b k, X b k → b < w.heap.size) → Spl Sm1.ins vs ds → RD P Sm1.ins w X x ds → Sm1.F E.n x = some y → Inv P (execOp a.eval o) w (Told P w X Sm1 y)) :
    SimW P IoS w0 X0 S a w o x σ' := by
  unfold callSm at h
  split at h
  · rename_i hcond
    simp only [Bool.and_eq_true, decide_eq_true_eq, Bool.not_eq_true'] at hcond
    obtain ⟨y, σ1, h1, h2⟩ := Pr.ex_bind_some h
    obtain ⟨z, hz, h3⟩ := opt_ex h2
    obtain ⟨l', σ2, h4, h5⟩ := Pr.ex_bind_some h3
    obtain ⟨rfl, rfl⟩ := ret_ex h5
    obtain ⟨hd, ds, s1, s2⟩ := argsData_ok hE l hr h1 hv
    have hX : ∀ b k, Yof (!Sm1.outs.flat) X0 σ1 γ b k → b < w.heap.size := by
      intro b k hb
      have hx0 : ∀ b k, X0 b k → b < w.heap.size := fun b k h => Nat.lt_of_lt_of_le (hr.x0 b k h).1 hr.size
      cases hf : Sm1.outs.flat with
      | true => rw [hf] at hb; exact hx0 b k hb
      | false =>
        rw [hf] at hb
        rcases hb with hb | ⟨i, ob, hi, hb, _⟩
        · exact hx0 b k hb
        · exact hd.rel.base_lt hi hb
    have hi := hc (Yof (!Sm1.outs.flat) X0 σ1 γ) y z ds (hd.ext.le.trans (Yof_le _ σ1)) hX s1 s2 hz
    intro Q
    unfold Oper.wp
    rcases hi with ⟨f, args, q1, q2⟩ | ⟨v, w', q1, q2⟩
    · rw [q1, Oper.upon_enter]
      refine q2.mono fun e w' ht => ?_
      obtain ⟨v, γ', rfl, g1, g2⟩ := after_call hr hd ht hcond.1 rfl hcond.2 h4
      exact ⟨γ', g1.put o.dst g2⟩
    · rw [q1, Oper.upon_value]
      obtain ⟨v', γ', e, g1, g2⟩ := after_call hr hd q2 hcond.1 rfl hcond.2 h4
      cases e
      exact ⟨γ', g1.put o.dst g2⟩
  · cases h

theorem opds_al {S : St} (hr : Rel P IoS w0 X0 γ S a w) (l : List Operand) : Al (VR P w (unst X0 S.o γ) S.o γ) (l.map (opd S.f)) (l.map a.eval) := Al.map l fun x _ => hr.opd x

theorem Inv.of {s : Sem Next} {s' : Sem Next} {R : Ending → World → Prop} (h : Inv P s w R) (e : s'.run P w = s.run P w) : Inv P s' w R := by
  unfold Inv
  rw [e]
  exact h

theorem Told_plain {X : Un} {Sm1 : Sm} {y : Den Sm1.outs} {e : Ending} {w' : World} (hf : Sm1.fresh = []) : (∃ rs es, e = .returned (resVal rs) ∧ Below w.heap.size w w' ∧ RSpl Sm1.k Sm1.outs rs es ∧ RD P Sm1.outs w' X y es) → Told P w X Sm1 y e w' := by
  rintro ⟨rs, es, h1, h2, h3, h4⟩
  refine ⟨rs, h1, h2, by rw [hf]; cases rs <;> simp [frV], ?_⟩
  rw [hf, Xr_none rfl]
  exact ResR_of_plain _ _ h3 h4

theorem mapArr {α β : Type} (f : α → β) (xs : Array α) : (xs.toList.map f).toArray = xs.map f := by
  apply Array.ext'
  simp

theorem sim_clip (hE : EnvOK P E) {S : St} (hr : Rel P IoS w0 X0 γ S a w) {f : FuncId} {l : List AV} {vs : List Value}
    (hrun : ∀ R : Ending → World → Prop, True → Inv P (callFunc f vs.toArray) w R → Inv P (execOp a.eval o) w R) (hc : E.clip f = true) (h : (clipAV l).ex S.o = some (x, σ')) (hv : Al (VR P w (unst X0 S.o γ) S.o γ) l vs) : SimW P IoS w0 X0 S a w o x σ' := by
  unfold clipAV at h
  split at h
  · rename_i i n
    match vs, hv with
    | [v], hv =>
      have hv := hv.1
      obtain ⟨ob, hi, g0⟩ := get_ex h
      clear h
      split at g0
      · rename_i e t xs n' sh
        split at g0
        · rename_i hn
          subst hn
          have h4 := put_ex g0
          obtain ⟨rfl, rfl⟩ := ret_ex h4
          obtain ⟨ob', val, g1, g2, g3, g4⟩ := hv
          rw [hi] at g1
          simp only [Option.some.injEq] at g1
          subst g1
          simp only [List.cons.injEq, and_true] at g3
          have hval := (g4 rfl).1
          have hγ : v = γ i := g3.trans hval
          subst hγ
          obtain ⟨cells, css0, q1, q2, q3, q4, q5⟩ := hr.obs i _ hi
          have fin : ∀ (v' : Value), w.ownsC 0 e t.size v' xs.length cells → baseOf v' = baseOf (γ i) → v'.oneCell' = true → Invokes P f #[γ i] w (fun e w' => e = .returned v' ∧ w' = w) → SimW P IoS w0 X0 S a w o (.own i (n' + 1)) (S.o.set i (.arr e t xs (n' + 1) sh)) := by
            intro v' ho hbase hone hinv
            have t1 : Turn P X0 γ S.o w i (.arr e t xs (n' + 1) sh) v' w := {
              row := ⟨none, grownBy_refl w none, fun b hb => by cases hb⟩
              ver := by
                intro ob0 h0
                rw [hi] at h0
                simp only [Option.some.injEq] at h0
                subst h0
                exact ⟨Nat.le_succ _, fun e => by simp only [Ob.ver] at e; omega⟩
              base := fun b hb => by rw [hbase] at hb; exact ⟨.inl ⟨_, hi, hb⟩, hr.base_lt hi hb⟩
              un := fun b k hb _ hu => ⟨_, hi, by rw [← hbase]; exact hb, hu⟩
              cell := fun _ _ _ _ _ _ => rfl }
            have hle := (t1.ext hr).le
            have hrel : Rel P IoS w0 X0 (upd1 γ i v') ⟨S.f, S.o.set i (.arr e t xs (n' + 1) sh)⟩ a w := t1.rel hr ⟨cells, css0, ho, q2, q3, q4, fun j x d hx hd => RD.mono t (q5 j x d hx hd) hle⟩
            have hvr : VR P w (unst X0 (S.o.set i (.arr e t xs (n' + 1) sh)) (upd1 γ i v')) (S.o.set i (.arr e t xs (n' + 1) sh)) (upd1 γ i v') (.own i (n' + 1)) v' :=
              ⟨.arr e t xs (n' + 1) sh, v', by simp [Store.set_get], ⟨Nat.le_refl _, hone⟩, rfl, fun _ => ⟨by simp [upd1], _, _, _, _, _, rfl⟩⟩
            intro Q
            unfold Oper.wp
            rcases hrun _ trivial (Invokes.inv hinv) with ⟨f, args, p1, p2⟩ | ⟨u, w', p1, p2⟩
            · rw [p1, Oper.upon_enter]
              refine p2.mono fun e w' ht => ?_
              obtain ⟨rfl, rfl⟩ := ht
              exact ⟨_, hrel.put o.dst hvr⟩
            · rw [p1, Oper.upon_value]
              obtain ⟨ht, rfl⟩ := p2
              cases ht
              exact ⟨_, hrel.put o.dst hvr⟩
          rcases q1.2 with ⟨k0, hn0⟩ | ⟨g, cap, cur, k0, k1, k2, k3, k4, k5, k6⟩
          · refine fin (.slice none 0 0) ⟨q1.1, .inl ⟨rfl, hn0⟩⟩ (by rw [k0]) rfl ?_
            rw [k0]
            exact hE.clip f hc w none 0 0 (Nat.le_refl _) (fun _ => rfl)
          · refine fin (.slice (some ⟨g, 0, none⟩) xs.length xs.length) ⟨q1.1, .inr ⟨g, xs.length, cur, rfl, k1, k2, Nat.le_refl _, Nat.le_trans k3 k4, Nat.le_trans (Nat.mul_le_mul_right _ k3) k5, k6⟩⟩ (by rw [k0]; rfl) rfl ?_
            rw [k0]
            exact hE.clip f hc w _ _ _ k3 (fun h => by cases h)
        · cases g0
      · cases g0
    | [], hv => exact hv.elim
    | _ :: _ :: _, hv => exact hv.2.elim
  · cases h

theorem sim_call (hE : EnvOK P E) {S : St} (hr : Rel P IoS w0 X0 γ S a w) {c : Call} (ho : o.op = .call c) (h : (step E S.f o).ex S.o = some (x, σ')) : SimW P IoS w0 X0 S a w o x σ' := by
  simp only [step, ho] at h
  cases hcal : c.callee with
  | builtin b =>
    rw [hcal] at h
    simp only at h
    generalize hts : c.argTypes.toList = ts at h
    generalize has : c.args.toList.map (opd S.f) = as at h
    cases b with
    | len =>
      match ts, as, h, hts, has with
      | [t], [y], h, hts, has =>
        obtain ⟨z, hz, hzy⟩ := arr1 has
        subst hzy
        exact (sim_len hE hr ho hcal (arr1' hts) hz h).simW
      | [], _, h, _, _ => cases h
      | _ :: _ :: _, _, h, _, _ => cases h
      | [_], [], h, _, _ => cases h
      | [_], _ :: _ :: _, h, _, _ => cases h
    | append =>
      match ts, as, h, hts, has with
      | [t, u], [y, y'], h, hts, has =>
        obtain ⟨z, z', hz, hzy, hzy'⟩ := arr2 has
        subst hzy; subst hzy'
        exact (sim_append hE hr ho hcal (arr2' hts) hz h).simW
      | [], _, h, _, _ => cases h
      | [_], _, h, _, _ => cases h
      | _ :: _ :: _ :: _, _, h, _, _ => cases h
      | [_, _], [], h, _, _ => cases h
      | [_, _], [_], h, _, _ => cases h
      | [_, _], _ :: _ :: _ :: _, h, _, _ => cases h
    | min =>
      match ts, as, h, hts, has with
      | [t, u], [y, y'], h, hts, has =>
        obtain ⟨z, z', hz, hzy, hzy'⟩ := arr2 has
        subst hzy; subst hzy'
        exact (sim_min hE hr ho hcal (arr2' hts) hz h).simW
      | [], _, h, _, _ => cases h
      | [_], _, h, _, _ => cases h
      | _ :: _ :: _ :: _, _, h, _, _ => cases h
      | [_, _], [], h, _, _ => cases h
      | [_, _], [_], h, _, _ => cases h
      | [_, _], _ :: _ :: _ :: _, h, _, _ => cases h
    | max =>
      match ts, as, h, hts, has with
      | [t, u], [y, y'], h, hts, has =>
        obtain ⟨z, z', hz, hzy, hzy'⟩ := arr2 has
        subst hzy; subst hzy'
        exact (sim_max hE hr ho hcal (arr2' hts) hz h).simW
      | [], _, h, _, _ => cases h
      | [_], _, h, _, _ => cases h
      | _ :: _ :: _ :: _, _, h, _, _ => cases h
      | [_, _], [], h, _, _ => cases h
      | [_, _], [_], h, _, _ => cases h
      | [_, _], _ :: _ :: _ :: _, h, _, _ => cases h
    | _ => cases h
  | value g =>
    rw [hcal] at h
    simp only at h
    have hg := hr.opd g
    split at h
    · rename_i f hf
      rw [hf] at hg
      have hg' : [a.eval g] = [Value.func (.func f) #[] #[]] := hg
      simp only [List.cons.injEq, and_true] at hg'
      split at h
      · rename_i hclip
        exact sim_clip hE hr (fun v w' hi => by
          refine Inv.of hi ?_
          simp only [execOp, ho, resolve, hcal, hg', Deferred.ofValue, Sem.run_bind, Sem.run_pure, Result.andThen_ok, invoke]
          rw [mapArr]
          simp) hclip h (opds_al hr _)
      split at h
      · rename_i S1 hS
        refine callSm_ok hE hr h (opds_al hr _) fun X x y ds hle hX hs hrd hF => ?_
        have := hE.fn f S1 hS E.n w X x y _ ds hX hs hrd hF
        refine Inv.of this.inv ?_
        simp only [execOp, ho, resolve, hcal, hg', Deferred.ofValue, Sem.run_bind, Sem.run_pure, Result.andThen_ok, invoke]
        rw [mapArr]
        simp
      · cases h
    · rename_i t k b F hf
      rw [hf] at hg
      obtain ⟨F', hF', h⟩ := opt_ex h
      subst hF'
      have hg' : RV P (.fn t k b) w (unst X0 S.o γ) (some F') (a.eval g) := hg
      obtain ⟨f, first, caps, e1, hc⟩ := (RV.one rfl hg').2
      simp only [List.cons.injEq, and_true] at e1
      refine callSm_ok hE hr h (opds_al hr _) fun X x y ds hle hX hs hrd hF => ?_
      have := hc E.n x y w X _ ds hle hX hs hrd hF
      refine Inv.of (this.mono fun e w' h => Told_plain (Sm1 := ⟨t, k, b, [], F'⟩) rfl h).inv ?_
      simp only [execOp, ho, resolve, hcal, e1, Deferred.ofValue, Sem.run_bind, Sem.run_pure, Result.andThen_ok, invoke]
      rw [mapArr]
    · cases h
  | invoke r m =>
    rw [hcal] at h
    simp only at h
    split at h
    · rename_i S1 hS
      have hal : Al (VR P w (unst X0 S.o γ) S.o γ) (opd S.f r :: c.args.toList.map (opd S.f)) (a.eval r :: c.args.toList.map a.eval) := ⟨hr.opd r, opds_al hr _⟩
      refine callSm_ok hE hr h hal fun X x y ds hle hX hs hrd hF => ?_
      have := hE.inv m S1 hS E.n w X x y (a.eval r) (c.args.toList.map a.eval) ds hX hs hrd hF
      refine Inv.of this ?_
      simp only [execOp, ho, resolve, hcal, Sem.run_bind, Sem.run_pure, Result.andThen_ok, invoke]
      rw [mapArr]
      have key : ∀ (z : Value) (xs : Array Value), (#[z] ++ xs)[0]? = some z ∧ (#[z] ++ xs).extract 1 (#[z] ++ xs).size = xs := by
        intro z xs
        obtain ⟨l⟩ := xs
        exact ⟨by simp, by apply Array.ext'; simp [List.extract]⟩
      obtain ⟨e1, e2⟩ := key (a.eval r) (c.args.map a.eval)
      rw [e1, e2]
    · cases h

theorem sim_makeFunc (hE : EnvOK P E) {S : St} (hr : Rel P IoS w0 X0 γ S a w) {g : FuncId} {first caps : Array Operand} (ho : o.op = .makeFunc (.func g) first caps) (h : (step E S.f o).ex S.o = some (x, σ')) : Sim P IoS w0 X0 S a w o x σ' := by
  simp only [step, ho] at h
  split at h
  · rename_i t k b S1 hT hS
    obtain ⟨xf, σ1, h1, h2⟩ := Pr.ex_bind_some h
    obtain ⟨xc, σ2, h3, h4⟩ := Pr.ex_bind_some h2
    obtain ⟨F, hF, h5⟩ := opt_ex h4
    obtain ⟨rfl, rfl⟩ := ret_ex h5
    obtain ⟨d1, ds1, s1, r1⟩ := argsData_ok hE _ hr h1 (opds_al hr _)
    obtain ⟨d2, ds2, s2, r2⟩ := argsData_ok hE _ (S := ⟨S.f, σ1⟩) d1.rel h3 ((opds_al hr _).imp fun x y h => h.mono d1.ext)
    have hok := asFn_OK (w := w) (X := unst X0 σ2 γ) hE.fn hF s1 (RD.mono _ r1 d2.ext.le) s2 r2
    refine Sim.shared (d1.trans d2) (v := .func (.func g) (first.map a.eval) (caps.map a.eval)) ?_ ?_
    · simp [execOp, ho, Instr.makeFunc]
    · have := hok.RV
      rw [mapArr, mapArr] at this
      exact this
  · cases h

/-- EVERY OPERATION -/
theorem sim_step (hE : EnvOK P E) {S : St} (hr : Rel P IoS w0 X0 γ S a w) (h : (step E S.f o).ex S.o = some (x, σ')) : SimW P IoS w0 X0 S a w o x σ' := by
  cases ho : o.op with
  | move y => exact (sim_move hr (.inl ho) h).simW
  | assign y => exact (sim_move hr (.inr ho) h).simW
  | pick c y z => exact (sim_pick hr ho h).simW
  | alloc T => exact (sim_alloc hE hr ho h).simW
  | box T y => exact (sim_box hE hr ho h).simW
  | build T parts => exact (sim_build hE hr ho h).simW
  | buildSlice T n parts => exact (sim_buildSlice hE hr ho h).simW
  | load T y => exact (sim_load hE hr ho h).simW
  | store T y z => exact (sim_store hE hr ho h).simW
  | nilCheck y => exact (sim_nilCheck hr ho h).simW
  | binOp op tx y z ty => exact (sim_bin hE hr ho h).simW
  | unOp op tx y => exact (sim_un hE hr ho h).simW
  | convert src dst y => exact (sim_conv hE hr ho h).simW
  | makeInterface T y => exact (sim_mkIface hE hr ho h).simW
  | makeFunc f first caps =>
    cases f with
    | func g => exact (sim_makeFunc hE hr ho h).simW
    | _ => simp only [step, ho] at h; cases h
  | makeSlice T l c => exact (sim_makeSlice hE hr ho h).simW
  | slice T y lo hi mx => exact (sim_slice hE hr ho h).simW
  | fieldAddr T y j => exact (sim_fieldAddr hE hr ho h).simW
  | field T y j => exact (sim_field hE hr ho h).simW
  | indexAddr T y i => exact (sim_indexAddr hE hr ho h).simW
  | index T y i => exact (sim_index hE hr ho h).simW
  | typeAssert y tx u ok => exact (sim_typeAssert hE hr ho h).simW
  | range T y => exact (sim_range hE hr ho h).simW
  | next y st => exact (sim_next hE hr ho h).simW
  | extract y i => exact (sim_extract hr ho h).simW
  | call c => exact sim_call hE hr ho h
  | _ => simp only [step, ho] at h; cases h
end
end Go.AM
end
