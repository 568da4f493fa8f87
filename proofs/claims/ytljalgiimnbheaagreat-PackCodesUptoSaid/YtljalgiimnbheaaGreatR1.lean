/- Proved: PackCodesUptoSaid, the given statement: on every input of bulk at most 1048576 the law returns true and its arguments read as before. Conditions: those of the given row and no others. -/
import Derived.Test.YtljalgiimnbheaaGreatRows
import Derived.JoinedCond
import Derived.ChangeCalls
import Derived.Test.YtljalgiimnbheaaGreatA3
import Derived.Test.YtljalgiimnbheaaGreatC3
import Derived.Test.YtljalgiimnbheaaGreatU1
set_option linter.all false
section
/- THE ROW OF A LAW, by its plain function. Filled by fill.py (CHAIN, OK, FNS, SM, LAW = law's name, low, FID, INS) -/
open Go Go.AM
open Go.ChangeShapes Go.WideShapes Go.RowKit
namespace Go.Proofs.YtljalgiimnbheaaGreat.packCodes
theorem own : ownKnob Tryz.prog.godebug = none := by kernel_rfl
theorem laid : laidOutB Tryz.prog = true := by kernel_rfl
def meas (H : Type) : Meas H where
  m := Rows.uptoBulk
  mAll := Rows.uptoBulkAll
  lit l := by cases l <;> simp [Rows.uptoBulk]
  str b := by simp [Rows.uptoBulk]
  nil := by simp [Rows.uptoBulk]
  slice e s := by simp [Rows.uptoBulk]
  agg ps := by simp [Rows.uptoBulk]
  all0 := by simp [Rows.uptoBulkAll]
  all1 d r := by simp [Rows.uptoBulkAll]

/-- the law's plain function answers true -/
def Pure : Prop := ∃ n, ∀ x : Den Ch.S4.ins, inR Ch.S4.ins x → blk Ch.S4.ins x ≤ 1048576 → Ch.S4.F n x = some true

theorem insOK {n : Nat} (h : EnvOK Tryz.prog (env Ch.tabs Ch.fns163 [] n)) : InsOK Tryz.prog Ch.S4.ins Tryz.f4.params.toList := by
  rw [Tryz.params4]
  exact ⟨38, [46], rfl, rfl, h.ty 38 _ rfl, 46, [], rfl, rfl, h.ty 46 _ rfl, rfl⟩

theorem vars0 : Rows.packCodesSpec.vars = [] := rfl
theorem smOK (n : Nat) : SmOK Tryz.prog n 4 Ch.S4 := by
  have e : (env Ch.tabs Ch.fns163 [] n).fn 4 = some Ch.S4 := by kernel_rfl
  exact (Ch.ok163 n).fn 4 Ch.S4 e n

set_option maxRecDepth 100000 in
theorem contract (hp : Pure) (H : Type) (enc : TypeId × Value → H) (W : World) (base : Nat) (args : Array Value) (ds gs : List (DataW H)) (before : List MemPlace)
    (hval : ∀ (j : Nat) t v, Tryz.f4.params[j]? = some t → args[j]? = some v → Value.okWide Tryz.prog W .any base t v)
    (hW : DataW.Whole enc Tryz.prog Tryz.f4.params.toList Rows.packCodesSpec.vars false W args.toList ds gs before) (hk : Rows.uptoSmall H (ds ++ gs) = true) :
    Calls Tryz.prog 4 args W fun e W' => ∃ v, e = .returned v ∧ Rows.packCodesSpec.post enc Tryz.prog Tryz.f4 false true false false W args v W' := by
  obtain ⟨n, hp⟩ := hp
  have hgs : gs = [] := by
    obtain ⟨p, q, _, hV, _⟩ := hW
    exact (trodVars_none hV).1
  subst hgs
  have hm : Rows.uptoBulkAll ds ≤ 1048576 := by
    have h : Rows.uptoBulkAll (ds ++ []) ≤ 1048576 := of_decide_eq_true hk
    simpa using h
  have hlen : ds.length = Tryz.f4.params.toList.length := by
    obtain ⟨p, q, hA, _⟩ := hW
    exact (trodAll_length hA).2
  rw [Tryz.params4] at hlen
  refine law_calls (meas H) (n := n) (fn := Tryz.f4) (s := Rows.packCodesSpec) (ds := ds) (gs := []) (F := Ch.S4.F) laid (by kernel_rfl) (insOK (Ch.ok163 n)) (smOK n) (fun args w => enters_of Tryz.func4 (by kernel_rfl) rfl args w)
    ⟨4, by rw [show Tryz.f4.resultTypes = #[4] from rfl], Tryz.underlying4⟩ ?_ ?_ ?_ vars0 hval hW hm hp
  all_goals
    clear hk hm hval hW
    match ds, hlen with
    | [d1, d2], _ => rfl

set_option maxRecDepth 100000 in
theorem lifted (hp : Pure) (os : Os) (started : os.Started) (H : Type) (enc : TypeId × Value → H) (F : Stop.Interp) :
    ReturnsInHanded {} Tryz.checked os 4 .any ((Rows.OpenSpec.upto Rows.packCodesSpec).pre6 enc Tryz.prog Tryz.f4 Rows.packCodesUptoRow.domain false) (((Rows.OpenSpec.upto Rows.packCodesSpec).at F).post enc Tryz.prog Tryz.f4 false true false false) := by
  refine returnsInHanded_of_cond (C := Tryz.checked) (s := Rows.OpenSpec.upto Rows.packCodesSpec) (k := Rows.uptoSmall) rfl own started (by kernel_rfl) Tryz.func4
    (OpenSpec.witness (enc := enc) (C := Tryz.checked) (s := Rows.OpenSpec.upto Rows.packCodesSpec) (k := Rows.uptoSmall) rfl false ⟨#[], #[.slice none 0 0, .slice none 0 0], []⟩ 8 (by kernel_rfl) (by kernel_rfl) (by kernel_rfl)
      (x := ([.nil, .nil], [], [])) (by kernel_rfl) rfl (by kernel_rfl)) ?_
  intro W base args ds gs before hval hW _ hk _
  exact contract hp H enc W base args ds gs before hval hW hk

theorem of_pure (hp : Pure) : Rows.PackCodesUptoSaid :=
  OpenClaim.holds_of_cond 4 Tryz.f4 rfl rfl rfl rfl rfl rfl rfl ⟨rfl, rfl, rfl, rfl, rfl⟩ rfl rfl rfl rfl rfl (by kernel_rfl) Tryz.func4 (by kernel_rfl)
    (of_decide_eq_true (by kernel_rfl)) (by unfold Func.isWrapper; first | (rw [if_pos (by decide +kernel)]; kernel_rfl) | (rw [if_neg (by decide +kernel)]; exact ⟨rfl, rfl⟩))
    (fun os started H enc _ F => lifted hp os started H enc F)
end Go.Proofs.YtljalgiimnbheaaGreat.packCodes
end

section
open Go Go.AM
namespace Go.Proofs.YtljalgiimnbheaaGreat.packCodes
theorem pure : Pure := ⟨4194304, fun x hr _ => Pu.law_PackCodes x.1 x.2.1 (fun i hi => by
  have h := hr.2.1 i hi
  have h2 := h.2.2.2.1
  exact ⟨⟨h2.1.1, h2.1.2⟩, ⟨h2.2.1.1, h2.2.1.2⟩, ⟨h2.2.2.1.1, h2.2.2.1.2⟩⟩)⟩
theorem proved : Rows.PackCodesUptoSaid := of_pure pure
end Go.Proofs.YtljalgiimnbheaaGreat.packCodes
end
