/- Helper: summaries of standard functions and of one function of the program, for the evaluator (for PackCodesUptoSaid). Conditions: as each theorem states. -/
import Derived.Test.YtljalgiimnbheaaGreatS1
import Derived.WalkKit
import Derived.BigCall
import Derived.Shelf.Strings.BuilderRune
import Derived.Lib.Hide
import Derived.Test.YtljalgiimnbheaaGreatA3
import Derived.Laws.Externs
set_option linter.all false
section
namespace Go.Proofs
open Go.RowKit Go.Shelf Go.AM

namespace KeyX
def rn : Ren := ⟨fun | 242 => 213 | 278 => 221 | n => n, fun | 37 => 38 | 21 => 21 | 51 => 312 | 4 => 4 | 5 => 5 | 46 => 303 | 72 => 289 | 70 => 287 | n => n, fun | n => n⟩
theorem lays : Go.Proofs.Lays.n242 Tryz.prog rn := {
  mixed := by kernel_rfl
  f242 := Tryz.func213.trans (congrArg some (by kernel_rfl))
  f278 := Tryz.func221.trans (congrArg some (by kernel_rfl))
  t4 := Tryz.underlying4
  a4 := Tryz.isAgg4
  z4 := Tryz.sizeOf4
  v4 := Tryz.zeroValue4
  t5 := Tryz.underlying5
  a5 := Tryz.isAgg5
  z5 := Tryz.sizeOf5
  v5 := Tryz.zeroValue5
  t21 := Tryz.underlying21
  a21 := Tryz.isAgg21
  z21 := Tryz.sizeOf21
  v21 := Tryz.zeroValue21
  t37 := Tryz.underlying38
  a37 := Tryz.isAgg38
  z37 := Tryz.sizeOf38
  v37 := Tryz.zeroValue38
  t46 := Tryz.underlying303
  a46 := Tryz.isAgg303
  z46 := Tryz.sizeOf303
  v46 := Tryz.zeroValue303
  t51 := Tryz.underlying312
  a51 := Tryz.isAgg312
  z51 := Tryz.sizeOf312
  v51 := Tryz.zeroValue312 }
theorem extra : Builder.Extra Tryz.prog rn := {
  sizeBuilder := by kernel_rfl
  liesBuilder := by kernel_rfl
  t5 := Tryz.underlying5
  a5 := Tryz.isAgg5
  z5 := Tryz.sizeOf5
  v5 := Tryz.zeroValue5
  infoByte := by kernel_rfl
  cellsByte := by kernel_rfl
  sizeByte := by kernel_rfl
  neB5 := by decide }

set_option maxHeartbeats 4000000 in
set_option maxRecDepth 100000 in
theorem copyCheck_used (b : Nat) (w : World) (h0 : w.cell? ⟨b, 0, none⟩ = some (.pointer (some ⟨b, 0, none⟩))) :
    Calls Tryz.prog 212 #[.pointer (some ⟨b, 0, none⟩)] w fun e w' => e = .returned (.tuple #[]) ∧ w' = w := by
  obtain ⟨j, hj, _⟩ := Option.map_eq_some_iff.1 extra.sizeBuilder
  go_enter Tryz.func212, Tryz.ntmps212
  go_wp2
  rw [Lib.run_neq_ptr_same w _ Tryz.underlying287 hj]
  go_wp2
  go_end0
  exact ⟨rfl, rfl⟩

set_option maxHeartbeats 4000000 in
set_option maxRecDepth 100000 in
theorem copyCheck_fresh (b : Nat) (w : World) (h0 : w.cell? ⟨b, 0, none⟩ = some (.pointer none)) (hsh : w.shape? b = some (289, 2)) (hfz : w.frozen? ⟨b, 0, none⟩ = false) :
    Calls Tryz.prog 212 #[.pointer (some ⟨b, 0, none⟩)] w fun e w' => e = .returned (.tuple #[]) ∧ w' = w.setCell ⟨b, 0, none⟩ (.pointer (some ⟨b, 0, none⟩)) := by
  obtain ⟨j, hj, hjs⟩ := Option.map_eq_some_iff.1 extra.sizeBuilder
  go_enter Tryz.func212, Tryz.ntmps212
  go_wp2
  rw [Lib.run_to_unsafe w ⟨b, 0, none⟩ Tryz.underlying287 Tryz.underlying310 hj (by rw [hjs]; decide) hsh (Nat.zero_lt_succ 1)]
  simp only [Result.andThen]
  rw [Oper.upon_value]
  go_wp2
  rw [run_callFunc_extern Tryz.func220 (by kernel_rfl) (by kernel_rfl) (by kernel_rfl) (e := Extern.AbiNoEscape.same) (by kernel_rfl)]
  rw [Lib.run_noEscape]
  simp only [Result.andThen]
  rw [Oper.upon_value]
  go_wp2
  rw [Lib.run_from_unsafe w ⟨b, 0, none⟩ Tryz.underlying310 Tryz.underlying287 hj hsh extra.liesBuilder]
  simp only [Result.andThen]
  rw [Oper.upon_value]
  go_wp2
  go_end0
  exact ⟨rfl, rfl⟩

theorem copyCheck_k (B b : Nat) (bs : List Value) (w : World) (h : Lib.IsBuilderF 289 5 B b bs w) :
    Calls Tryz.prog 212 #[.pointer (some ⟨b, 0, none⟩)] w fun e w' => e = .returned (.tuple #[]) ∧ (Lib.BuilderAtF 289 5 B b (.pointer (some ⟨b, 0, none⟩)) bs w' ∧ Below B w w' ∧ Lib.OthersKept 5 (some b) w w') := by
  rcases h with h | h
  · refine (copyCheck_fresh b w h.cell0 h.shape h.frozen0).mono ?_
    rintro e w' ⟨rfl, rfl⟩
    exact ⟨rfl, h.used _, (Below.refl B w).setCell (p := ⟨b, 0, none⟩) h.1 _, (Lib.OthersKept.refl _ _ w).setCell ⟨b, 0, none⟩ rfl _⟩
  · refine (copyCheck_used b w h.cell0).mono ?_
    rintro e w' ⟨rfl, rfl⟩
    exact ⟨rfl, h, Below.refl B _, Lib.OthersKept.refl _ _ _⟩

theorem appendRune (B : Nat) (v : Value) (n : Nat) (xs : List Value) (r : Int) (hr0 : -2147483648 ≤ r) (hr1 : r ≤ 2147483647) (w : World) (hown : w.ownsRowF B 5 1 v n xs) (hlen : n + 4 ≤ 140737488355328) (hBw : B ≤ w.heap.size) :
    Calls Tryz.prog 213 #[v, .int .i32 r] w fun e w' => ∃ v', e = .returned v' ∧ w'.ownsRowF B 5 1 v' (n + (Lib.runeCells r).length) (xs ++ Lib.runeCells r) ∧ ∃ o, (w.alloc o).grownBy w' v.ownBlock :=
  Any.utf8_AppendRune_own lays extra B v n xs r hr0 hr1 w hown hlen hBw

set_option maxHeartbeats 4000000 in
set_option maxRecDepth 100000 in
theorem writeRune (B b : Nat) (bs : List Value) (r : Int) (hr0 : -2147483648 ≤ r) (hr1 : r ≤ 2147483647) (w : World) (h : Lib.IsBuilderF 289 5 B b bs w) (hlen : bs.length + 4 ≤ 140737488355328) (hBw : B ≤ w.heap.size) :
    Calls Tryz.prog 201 #[.pointer (some ⟨b, 0, none⟩), .int .i32 r] w fun e w' => e = .returned (.tuple #[.int .i64 (Lib.runeCells r).length, .nilIface]) ∧ (Lib.BuilderAtF 289 5 B b (.pointer (some ⟨b, 0, none⟩)) (bs ++ Lib.runeCells r) w' ∧ Below B w w' ∧ Lib.OthersKept 5 (some b) w w') := by
  have hk4 := Lib.runeCells_le r
  go_enter Tryz.func201, Tryz.ntmps201
  go_wp2_with (go_at_call 212; refine (copyCheck_k B b bs _ h).mono ?_)
  rintro e w1 ⟨rfl, h1, hb1, hk1⟩
  obtain ⟨hB, v, hbk, hown, hne⟩ := h1
  obtain ⟨ao, cap, rfl⟩ : ∃ ao cap, v = .slice ao bs.length cap := by
    rcases hown.2 with ⟨hv, h0⟩ | ⟨g, cap, cur, fz, hv, _⟩
    · exact ⟨none, 0, by rw [hv, h0]⟩
    · exact ⟨_, _, hv⟩
  have c0 : w1.cell? ⟨b, 0, none⟩ = some (.pointer (some ⟨b, 0, none⟩)) := by rw [Lib.cell_of_heap hbk]; rfl
  have c1 : w1.cell? ⟨b, 1, none⟩ = some (.slice ao bs.length cap) := by rw [Lib.cell_of_heap hbk]; rfl
  go_wp2_with (go_at_call 213; refine (appendRune B _ bs.length bs r hr0 hr1 _ hown hlen (by have := hb1.size; omega)).mono ?_)
  rintro e w2 ⟨v', rfl, hown', o, hgrow⟩
  have hlt : b < w1.heap.size := by
    rcases Nat.lt_or_ge b w1.heap.size with h' | h'
    · exact h'
    · simp [Array.getElem?_eq_none h'] at hbk
  have hb2 : w2.heap[b]? = some (.cells #[.pointer (some ⟨b, 0, none⟩), .slice ao bs.length cap] 289 (0, 0)) := by
    rw [hgrow.block b (by simp; omega) (fun e => hne e.symm), Lib.alloc_old w1 _ b hlt]
    exact hbk
  have d0 : w2.cell? ⟨b, 0, none⟩ = some (.pointer (some ⟨b, 0, none⟩)) := by rw [Lib.cell_of_heap hb2]; rfl
  have d1 : w2.cell? ⟨b, 1, none⟩ = some (.slice ao bs.length cap) := by rw [Lib.cell_of_heap hb2]; rfl
  have f1 : w2.frozen? ⟨b, 1, none⟩ = false := Lib.frozen_of_heap hb2 1
  obtain ⟨g, cap', rfl⟩ : ∃ g cap', v' = .slice (some ⟨g, 0, none⟩) (bs.length + (Lib.runeCells r).length) cap' := by
    rcases hown'.2 with ⟨_, h0⟩ | ⟨g, cap', cur, fz, hv, _⟩
    · omega
    · exact ⟨g, cap', hv⟩
  go_wp2
  go_ret2
  refine ⟨?_, ?_, ?_, ((hk1.alloc _).grown hgrow (Lib.ownsRowF_kind (hown.alloc _))).setCell ⟨b, 1, none⟩ rfl _⟩
  · have e : ((bs.length : Int) + ((Lib.runeCells r).length : Int) - (bs.length : Int)) = ((Lib.runeCells r).length : Int) := by omega
    simp [e]
  · exact Lib.BuilderAtF.put (T := 289) (e := 5) hB hb2 (bs' := bs ++ Lib.runeCells r) (by simpa using hown') extra.neB5
  · exact ((hb1.alloc (by have := hb1.size; omega) _).grown hgrow (by have := hb1.size; simp; omega) (fun k hk => (hown.lt k hk).1)).setCell (p := ⟨b, 1, none⟩) hB _

theorem string_any (B b : Nat) (l : List UInt8) (w : World) (h : Lib.IsBuilderF 289 5 B b (Lib.byteCells l) w) (hBw : B ≤ w.heap.size) :
    Calls Tryz.prog 203 #[.pointer (some ⟨b, 0, none⟩)] w fun e w' => e = .returned (.string ⟨l.toArray⟩) ∧ (Lib.IsBuilderF 289 5 B b (Lib.byteCells l) w' ∧ Below B w w') :=
  (Tryz.Builder_String_any_f B b l w h hBw).mono fun e w' h => h

theorem fold_enters (args : Array Value) (w : World) : (callFunc 202 args).run Tryz.prog w = .ok (.enter 202 args) w := enters_of Tryz.func202 (by kernel_rfl) rfl args w

theorem width_pos (s : ByteArray) (pos : Nat) (h : pos < s.size) : 1 ≤ (Utf8.decode s pos).2 := by
  by_cases ha : (s[pos]'h).toNat < 128
  · rw [decode_ascii s pos h ha]
    exact Nat.le_refl _
  · exact (decode_high s pos h (by omega)).2

set_option maxHeartbeats 4000000 in
set_option maxRecDepth 1000000 in
theorem key_walk {n : Nat} {Fold : Nat → Int → Option Int} (hFold : SmOK Tryz.prog n 202 ⟨.pair (.int .i32) .unit, 1, .int .i32, [], fun n x => Fold n x.1⟩) (s : ByteArray) (tot : List UInt8) (hs : s.size ≤ 35184372088832) (hF : keyRunes (Fold n) s (s.size + 1) 0 = some tot) (w : World) :
    Calls Tryz.prog 177 #[.string s] w fun e w' => e = .returned (.string ⟨tot.toArray⟩) ∧ Below w.heap.size w w' := by
  go_enter Tryz.func177, Tryz.ntmps177
  go_wp2
  go_loopw [] (fun wr => ∃ (pos fuel : Nat) (acc rest : List UInt8), Lib.IsBuilderF 289 5 w.heap.size w.heap.size (Lib.byteCells acc) wr ∧ wr.heap[w.heap.size + 1]? = some (.stringIter s pos) ∧ Below w.heap.size w wr ∧ acc ++ rest = tot ∧ Hid (keyRunes (Fold n) s fuel pos = some rest) ∧ acc.length ≤ 4 * pos) (fun wr => s.size - wr.iterPos (w.heap.size + 1))
  case atStart =>
    refine ⟨0, s.size + 1, [], tot, (Lib.IsBuilderF.of (Lib.fresh_isBuilder 289 5 w)).alloc _, ?_, ((Below.refl _ w).alloc (Nat.le_refl _) _).alloc (by simp) _, rfl, Lib.hid hF, by simp⟩
    have := World.iter_heap (w.alloc (.cells #[.pointer none, .slice none 0 0] 289)) s 0
    simpa using this
  case round =>
    obtain ⟨pos, fuel, acc, rest, hI, hit, hbw, hacc, hF', hal⟩ := hrel
    clear hF
    have hsz : w.heap.size + 1 < wr.heap.size := (Array.getElem?_eq_some_iff.1 hit).1
    by_cases hp : pos < s.size
    · have hnx : ∀ ty, (Instr.next (.pointer (some ⟨w.heap.size + 1, 0, none⟩)) true ty).run Tryz.prog wr = _ := fun ty => Lib.run_next_any_at wr (w.heap.size + 1) s pos ty hit hp
      have hwd := width_pos s pos hp
      have hd1 := decode_le s pos
      have hI2 := hI.iterAt hit (pos + (Utf8.decode s pos).2)
      have hit2 := Lib.iterAt_heap wr (w.heap.size + 1) s pos (pos + (Utf8.decode s pos).2) hit
      have hbw2 := Lib.below_iterAt hbw (k := w.heap.size + 1) (by omega) s (pos + (Utf8.decode s pos).2)
      have hsz2 : w.heap.size + 1 < (wr.iterAt (w.heap.size + 1) s (pos + (Utf8.decode s pos).2)).heap.size := by rw [Lib.iterAt_size]; omega
      obtain ⟨c, f, rest', hc, hr0, hr1, hfu, hrest, hk⟩ : ∃ c f rest', Fold n (Utf8.decode s pos).1 = some c ∧ -2147483648 ≤ c ∧ c ≤ 2147483647 ∧ fuel = f + 1 ∧ rest = Lib.encodeRune c ++ rest' ∧ keyRunes (Fold n) s f (pos + (Utf8.decode s pos).2) = some rest' := by
        have hF1 := hF'.out
        cases fuel with
        | zero => cases hF1
        | succ f =>
          simp only [keyRunes, hp, if_true] at hF1
          obtain ⟨c, hc, h2⟩ := Option.bind_eq_some_iff.1 hF1
          by_cases hr : -2147483648 ≤ c ∧ c ≤ 2147483647
          · simp only [hr, if_true] at h2
            obtain ⟨r, hr1, hr2⟩ := Option.map_eq_some_iff.1 h2
            exact ⟨c, f, r, hc, hr.1, hr.2, rfl, hr2.symm, hr1⟩
          · simp [hr] at h2
      have HC := int_calls hFold fold_enters hc
      have HK := Lib.hid hk
      have HR := Lib.hid hrest
      have HA := Lib.hid hacc
      clear hc hk hrest hfu hF' hacc
      go_wp2_with (go_at_call 202; refine (HC _).mono ?_)
      rintro e W0 ⟨rfl, b0⟩
      have hI3 := IsBuilderF.below hI2 b0
      have hit3 : W0.heap[w.heap.size + 1]? = some (.stringIter s (pos + (Utf8.decode s pos).2)) := (b0.block _ (by rw [Lib.iterAt_size]; omega)).trans hit2
      have hsz3 : w.heap.size ≤ W0.heap.size := by have := b0.size; omega
      go_wp2_with (go_at_call 201; refine (writeRune w.heap.size w.heap.size _ _ hr0 hr1 _ hI3 (by rw [Lib.byteCells_length]; omega) hsz3).mono ?_)
      rintro e W1 ⟨rfl, h1, b1, k1⟩
      go_wp2
      go_roundw
      case rel =>
        have hl4 := Lib.runeCells_le c
        rw [Lib.runeCells_length] at hl4
        refine ⟨pos + (Utf8.decode s pos).2, f, acc ++ Lib.encodeRune c, rest', ?_, k1.iter hit3 (by omega), (hbw2.trans (b0.mono (by rw [Lib.iterAt_size]; omega))).trans b1, ?_, HK, by simp; omega⟩
        · rw [Lib.byteCells_append, Lib.byteCells_encodeRune]; exact Or.inr h1
        · have h9 := HA.out
          rw [HR.out] at h9
          rw [List.append_assoc]; exact h9
      case measure =>
        simp only [World.iterPos, k1.iter hit3 (by omega), hit]
        omega
    · have hnx : ∀ ty, (Instr.next (.pointer (some ⟨w.heap.size + 1, 0, none⟩)) true ty).run Tryz.prog wr = _ := fun ty => Lib.run_next_end_at wr (w.heap.size + 1) s pos ty hit hp
      have hr : rest = [] := by
        have hF1 := hF'.out
        cases fuel with
        | zero => cases hF1
        | succ f =>
          simp only [keyRunes, hp, if_false, Option.some.injEq] at hF1
          exact hF1.symm
      subst hr
      clear hF'
      go_wp2_with (go_at_call 203; refine (string_any w.heap.size w.heap.size acc _ hI (by omega)).mono ?_)
      rintro e W1 ⟨rfl, _, b1⟩
      go_wp2
      go_ret
      rw [List.append_nil] at hacc
      subst hacc
      exact ⟨rfl, hbw.trans b1⟩

theorem key_enters (args : Array Value) (w : World) : (callFunc 177 args).run Tryz.prog w = .ok (.enter 177 args) w := enters_of Tryz.func177 (by kernel_rfl) rfl args w

theorem key_sm {n : Nat} {Fold : Nat → Int → Option Int} (hFold : SmOK Tryz.prog n 202 ⟨.pair (.int .i32) .unit, 1, .int .i32, [], fun n x => Fold n x.1⟩) : SmOK Tryz.prog n 177 ⟨.pair .str .unit, 1, .str, [], fun n x => keyText (Fold n) x.1⟩ := by
  intro w X x y vs ds hX hs hr hF
  obtain ⟨v, vs', cs', rfl, rfl, h1, h2, rfl, rfl⟩ := hs
  obtain ⟨c1, c2, e, r1, r2⟩ := hr
  rw [show c2 = [] from r2, List.append_nil, List.append_nil] at e
  have hv := RV.str_inv (P := Tryz.prog) (w := w) (X := X) (s := x.1) (v := v) ⟨h1, by rw [e]; exact r1⟩
  subst hv
  have hF' : keyText (Fold n) x.1 = some y := hF
  unfold keyText at hF'
  split at hF'
  · rename_i hsz
    obtain ⟨l, hl, rfl⟩ := Option.map_eq_some_iff.1 hF'
    refine .inl ⟨key_enters _ w, (key_walk hFold x.1 l hsz hl w).mono ?_⟩
    rintro e' w' ⟨rfl, hb⟩
    exact told1 (t := .str) hb RV_str
  · cases hF'
end KeyX
end Go.Proofs
end

section
namespace Go.Proofs
open Go.RowKit Go.Shelf Go.AM
namespace LibX

theorem len64_sm (n : Nat) : SmOK Tryz.prog n 199 ⟨.pair (.int .u64) .unit, 1, .int .i64, [], fun _ x => len64 x.1⟩ := by
  intro w X x y vs ds hX hs hr hF
  obtain ⟨v, vs', cs', rfl, rfl, h1, h2, rfl, rfl⟩ := hs
  obtain ⟨c1, c2, e, r1, r2⟩ := hr
  rw [show c2 = [] from r2, List.append_nil, List.append_nil] at e
  have hv := RV.int_inv (P := Tryz.prog) (w := w) (X := X) (k := .u64) (n := x.1) (v := v) ⟨h1, by rw [e]; exact r1⟩
  subst hv
  have hF' : len64 x.1 = some y := hF
  unfold len64 at hF'
  split at hF'
  · rename_i hc
    simp only [Option.some.injEq] at hF'
    subst hF'
    refine .inl ⟨enters_of Tryz.func199 (by kernel_rfl) rfl _ w, (Tryz.bits_Len64 x.1 w hc.1 hc.2).mono ?_⟩
    rintro e' w' ⟨rfl, rfl⟩
    exact told1 (t := .int .i64) (Below.refl _ _) RV_int
  · cases hF'

theorem contains_sm (n : Nat) : SmOK Tryz.prog n 176 ⟨.pair .str (.pair .str .unit), 1, .bool, [], fun _ x => contains1 x.1 x.2.1⟩ := by
  intro w X x y vs ds hX hs hr hF
  obtain ⟨v, vs', cs', rfl, rfl, h1, h2, u, us', ds', rfl, rfl, h3, h4, rfl, rfl⟩ := hs
  obtain ⟨c1, c2, e, r1, c3, c4, rfl, r2, r3⟩ := hr
  rw [show c4 = [] from r3, List.append_nil, List.append_nil] at e
  have hl : v.cells.toList.length = c1.length := by rw [RD.length _ r1, Array.length_toList, h2]
  obtain ⟨e1, e2⟩ := List.append_inj e hl
  have hv := RV.str_inv (P := Tryz.prog) (w := w) (X := X) (s := x.1) (v := v) ⟨h1, by rw [e1]; exact r1⟩
  have hu := RV.str_inv (P := Tryz.prog) (w := w) (X := X) (s := x.2.1) (v := u) ⟨h3, by rw [e2]; exact r2⟩
  subst hv
  subst hu
  have hF' : contains1 x.1 x.2.1 = some y := hF
  unfold contains1 at hF'
  split at hF'
  · rename_i c hc
    simp only [Option.some.injEq] at hF'
    subst hF'
    have hsub : x.2.1 = ⟨#[c]⟩ := by
      generalize x.2.1 = s at hc
      obtain ⟨⟨l⟩⟩ := s
      have : l = [c] := hc
      rw [this]
    rw [hsub]
    refine .inl ⟨enters_of Tryz.func176 (by kernel_rfl) rfl _ w, (Tryz.strings_Contains_one x.1 c w).mono ?_⟩
    rintro e' w' ⟨rfl, rfl⟩
    exact told1 (t := .bool) (Below.refl _ _) RV_bool
  · cases hF'

theorem sub64_sm (n : Nat) : SmOK Tryz.prog n 228 ⟨.pair (.int .u64) (.pair (.int .u64) (.pair (.int .u64) .unit)), 2, .pair (.int .u64) (.int .u64), [], fun _ x => sub64 x.1 x.2.1 x.2.2.1⟩ := by
  intro w X x y vs ds hX hs hr hF
  obtain ⟨v, vs', cs', rfl, rfl, h1, h2, u, us', ds', rfl, rfl, h3, h4, t, ts', es', rfl, rfl, h5, h6, rfl, rfl⟩ := hs
  obtain ⟨c1, c2, e, r1, c3, c4, rfl, r2, c5, c6, rfl, r3, r4⟩ := hr
  rw [show c6 = [] from r4, List.append_nil, List.append_nil] at e
  obtain ⟨e1, e⟩ := List.append_inj e (by rw [RD.length _ r1, Array.length_toList, h2])
  obtain ⟨e2, e3⟩ := List.append_inj e (by rw [RD.length _ r2, Array.length_toList, h4])
  have hv := RV.int_inv (P := Tryz.prog) (w := w) (X := X) (k := .u64) (n := x.1) (v := v) ⟨h1, by rw [e1]; exact r1⟩
  have hu := RV.int_inv (P := Tryz.prog) (w := w) (X := X) (k := .u64) (n := x.2.1) (v := u) ⟨h3, by rw [e2]; exact r2⟩
  have ht := RV.int_inv (P := Tryz.prog) (w := w) (X := X) (k := .u64) (n := x.2.2.1) (v := t) ⟨h5, by rw [e3]; exact r3⟩
  subst hv
  subst hu
  subst ht
  have hF' : sub64 x.1 x.2.1 x.2.2.1 = some y := hF
  unfold sub64 at hF'
  split at hF'
  · rename_i hc
    simp only [Option.some.injEq] at hF'
    obtain ⟨p, hp⟩ := Int.eq_ofNat_of_zero_le hc.1
    obtain ⟨q, hq⟩ := Int.eq_ofNat_of_zero_le hc.2.1
    obtain ⟨b, hb⟩ := Int.eq_ofNat_of_zero_le hc.2.2.1
    have hb1 : b ≤ 1 := by omega
    rw [hp, hq, hb] at hF' ⊢
    simp only [Int.toNat_natCast] at hF'
    subst hF'
    refine .inr ⟨.tuple #[.int .u64 (((p + 18446744073709551616 - q - b) % 18446744073709551616 : Nat) : Int), .int .u64 ((if p < q + b then 1 else 0 : Nat) : Int)], w, ?_, ?_⟩
    · rw [run_callFunc_extern Tryz.func228 (by kernel_rfl) (by kernel_rfl) (by kernel_rfl) (e := sub64Entry) (by kernel_rfl), run_sub64 p q b hb1]
      rfl
    · refine ⟨[.int .u64 (((p + 18446744073709551616 - q - b) % 18446744073709551616 : Nat) : Int), .int .u64 ((if p < q + b then 1 else 0 : Nat) : Int)], rfl, Below.refl _ _, by simp [frV], ?_⟩
      rw [Xr_none rfl]
      exact ⟨_, _, rfl, RV_int, _, rfl, RV_int⟩
  · cases hF'

theorem clone_sm (n : Nat) : SmOK Tryz.prog n 119 ⟨.pair (.slice (.int .u8)) .unit, 1, .slice (.int .u8), [some 5], fun _ x => cloneB x.1⟩ := by
  intro w X x y vs ds hX hs hr hF
  obtain ⟨v, vs', cs', rfl, rfl, h1, h2, rfl, rfl⟩ := hs
  obtain ⟨c1, c2, e, r1, r2⟩ := hr
  rw [show c2 = [] from r2, List.append_nil, List.append_nil] at e
  obtain ⟨A, cap, rfl, k1, k2⟩ := slice_cells (P := Tryz.prog) (w := w) (X := X) (t := .int .u8) (xs := x.1) (v := v) ⟨h1, by rw [e]; exact r1⟩
  have hF' : cloneB x.1 = some y := hF
  unfold cloneB at hF'
  split at hF'
  · rename_i hc
    simp only [Option.some.injEq] at hF'
    have hy : y = x.1 := hF'.symm
    have en : ∀ args w, (callFunc 119 args).run Tryz.prog w = .ok (.enter 119 args) w := fun args w => enters_of Tryz.func119 (by kernel_rfl) rfl args w
    cases A with
    | none =>
      have hx : (x.1 : List Int) = [] := by
        rcases k2 with h | ⟨a, _, h, _⟩
        · exact h
        · cases h
      refine .inl ⟨en _ w, (Tryz.bytes_Clone_nil _ cap w).mono ?_⟩
      rintro e' w' ⟨rfl, rfl⟩
      refine ⟨[.slice none 0 0], rfl, Below.refl _ _, by simp [frV], .slice none 0 0, rfl, ?_⟩
      rw [hy]
      show OwnV Tryz.prog _ _ _ _ (.int .u8) x.1 _
      rw [hx]
      exact ⟨[], [], World.ownsC_nil _ _ _ _, by decide, rfl, rfl, fun i x d hx => by simp at hx⟩
    | some a =>
      have hcells : ∀ i, i < (x.1 : List Int).length → w.cell? (a.add i) = some (.int .u8 ((x.1 : List Int).getD i 0)) := by
        intro i hi
        rcases k2 with h | ⟨a', css, ha, hs, hl, hd, hcs, hrd⟩
        · rw [h] at hi; simp at hi
        · cases ha
          have hcs' : i < css.length := by rw [hl]; exact hi
          have hr := hrd i _ _ (List.getElem?_eq_getElem hi) (List.getElem?_eq_getElem hcs')
          have hr' : css[i] = [Value.int .u8 (x.1 : List Int)[i]] := hr
          have hf := flatten_at (css := css) (n := 1) (fun d hd' => hd d hd') (j := i) (r := 0) (d := css[i]) (List.getElem?_eq_getElem hcs') (by omega)
          rw [hr'] at hf
          simp only [Nat.mul_one, Nat.add_zero] at hf
          rw [cellsAt.run hs hcs i _ hf]
          simp [List.getD, hi]
      refine .inl ⟨en _ w, (Tryz.bytes_Clone_at a _ cap x.1 w rfl hc hcells).mono ?_⟩
      rintro e' w' ⟨v', rfl, hown, hne, hb⟩
      refine ⟨[v'], rfl, hb, by simp [frV], v', rfl, ?_⟩
      rw [hy]
      refine ⟨_, (x.1 : List Int).map fun z => [Value.int .u8 z], hown.toC, by decide, ?_, by simp, fun i z d hz hd => ?_⟩
      · induction (x.1 : List Int) with
        | nil => rfl
        | cons z l ih => simp only [List.map_cons, List.flatten_cons, ih, List.cons_append, List.nil_append]
      · rw [List.getElem?_map, hz] at hd
        simp only [Option.map_some, Option.some.injEq] at hd
        exact hd.symm
  · cases hF'

set_option maxHeartbeats 4000000 in
set_option maxRecDepth 100000 in
theorem clip_ok : ClipOK Tryz.prog 118 := by
  intro w A n cap hn hA
  refine .inl ⟨enters_of Tryz.func118 (by kernel_rfl) rfl _ w, ?_⟩
  go_enter Tryz.func118, Tryz.ntmps118
  cases A with
  | none =>
    have : n = 0 := hA rfl
    subst this
    go_wp2
    go_ret
    exact ⟨rfl, rfl⟩
  | some a =>
    go_wp2
    go_ret
    exact ⟨rfl, rfl⟩
end LibX
end Go.Proofs
end
