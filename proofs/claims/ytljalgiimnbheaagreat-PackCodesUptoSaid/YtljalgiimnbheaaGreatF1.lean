/- Helper: the program's functions as plain functions; nothing is proved here (for PackCodesUptoSaid). -/
import Derived.Test.YtljalgiimnbheaaGreatA3
set_option linter.all false
section
open Go
open Go.AM (loop sumE)
namespace Pl
abbrev T_code_Two := (Int × Unit)
abbrev T_api_Field := (ByteArray × T_code_Two)
abbrev T_api_Sum := (Int × T_code_Two)
abbrev T_image_Flaw := (Int × T_api_Sum)
abbrev T_api_Header := (ByteArray × ((List T_api_Field) × (Int × T_image_Flaw)))
abbrev T_api_Inst := (ByteArray × T_api_Sum)
abbrev T_word_Word := (Int × (Int × Unit))
abbrev T_api_Vec := (Int × T_word_Word)
abbrev T_api_Case := (T_api_Vec × (T_api_Vec × T_code_Two))
abbrev T_api_State := (ByteArray × ((List T_api_Sum) × ((List T_image_Flaw) × ((List T_api_Case) × T_code_Two))))
abbrev T_code_Push := (T_api_Vec × Unit)
abbrev T_api_Ins := (Int × (Int × (Int × T_code_Push)))
abbrev T_api_Action := (ByteArray × ((List Int) × ((List T_api_Ins) × Unit)))
abbrev T_api_Call := (Int × ((List T_api_Vec) × Unit))
abbrev T_api_Table := (ByteArray × (Int × ((List T_image_Flaw) × ((List Int) × (T_api_Call × T_code_Two)))))
abbrev T_api_Node := (Int × (Int × ((List T_api_Ins) × ((List T_api_Vec) × T_api_Sum))))
abbrev T_api_Meter := (ByteArray × T_image_Flaw)
abbrev T_api_Image := (ByteArray × ((List T_api_Header) × ((List T_api_Inst) × ((List T_api_Field) × ((List T_api_State) × ((List T_api_Action) × ((List T_api_Table) × ((List T_api_Node) × ((List T_api_Node) × ((List Int) × ((List T_api_Sum) × ((List T_api_Sum) × ((List T_api_Inst) × ((List T_api_Field) × ((List T_api_Meter) × T_image_Flaw)))))))))))))))
abbrev T_image_checker := (T_api_Image × Unit)
abbrev T_code_shape := (Bool × (Bool × (Int × (Int × (Int × T_image_Flaw)))))
abbrev T_code_Step := (T_code_Push ⊕ (T_code_Two ⊕ (Unit ⊕ (T_image_Flaw ⊕ (T_api_Sum ⊕ (T_image_Flaw ⊕ (T_api_Sum ⊕ (T_api_Sum ⊕ (T_api_Sum ⊕ (T_api_Sum ⊕ (T_api_Sum ⊕ Unit)))))))))))
abbrev T_shunterref09_Row := (ByteArray × (Int × (Int × (Int × ((List Int) × ((List Int) × (ByteArray × Unit)))))))
/-- shunter/image.first -/
abbrev image_first.l0.X := (((List Int) × Int × Int × Unit) × (Unit))
abbrev image_first.l0.Y := ((Unit) × (Unit)) ⊕ ((Int × Unit) × (Unit))
def image_first.l0.step (n : Nat) (L : image_first.l0.X → Option image_first.l0.Y) (x : image_first.l0.X) : Option image_first.l0.Y :=
  let c1 := (decide (x.1.2.2.1 < x.1.2.1))
  if c1 then
    (AM.at? x.1.1 x.1.2.2.1).bind fun e2 =>
    if (e2 != (0 : Int)) then
      some (Sum.inr ((e2, ()), (())))
    else
    let c3 := (IntKind.wrap .i64 (x.1.2.2.1 + (1 : Int)))
    L ((x.1.1, x.1.2.1, c3, ()), (()))
  else
  some (Sum.inl ((()), (())))
def image_first.l0 (n m : Nat) (x : image_first.l0.X) : Option image_first.l0.Y := loop (image_first.l0.step n) m x
def image_first (n : Nat) (a0_l : (List Int)) : Option Int :=
  (image_first.l0 n n ((a0_l, (a0_l.length : Int), (0 : Int), ()), (()))).bind fun y4 =>
  sumE y4 (fun a5 =>
    some (0 : Int))
    (fun b6 =>
    some b6.1.1)
/-- shunter/image.wants -/
def image_wants (n : Nat) (a0_ok : Bool) (a1_e : Int) : Option Int :=
  if a0_ok then
    some (0 : Int)
  else
  some a1_e
/-- shunter/name.between -/
def name_between (n : Nat) (a0_c : Int) (a1_lo : Int) (a2_hi : Int) : Option Bool :=
  if (decide (a0_c ≥ a1_lo)) then
    some (decide (a0_c ≤ a2_hi))
  else
  some false
/-- shunter/name.Letter -/
def name_Letter.j1 (n : Nat) (a0_c : Int) (j4 : Bool) : Option Bool :=
  if j4 then
    some true
  else
  (name_between n a0_c (192 : Int) (591 : Int)).bind fun y5 =>
  if y5 then
    some true
  else
  (name_between n a0_c (913 : Int) (969 : Int)).bind fun y6 =>
  if y6 then
    some true
  else
  (name_between n a0_c (1024 : Int) (1279 : Int)).bind fun y7 =>
  some y7
def name_Letter.j2 (n : Nat) (a0_c : Int) (j1 : Bool) : Option Bool :=
  if j1 then
    some false
  else
  (name_between n a0_c (65 : Int) (90 : Int)).bind fun y2 =>
  if y2 then
    name_Letter.j1 n a0_c true
  else
  (name_between n a0_c (97 : Int) (122 : Int)).bind fun y3 =>
  if y3 then
    name_Letter.j1 n a0_c true
  else
  name_Letter.j1 n a0_c (a0_c == (95 : Int))
def name_Letter (n : Nat) (a0_c : Int) : Option Bool :=
  if (a0_c == (215 : Int)) then
    name_Letter.j2 n a0_c true
  else
  if (a0_c == (247 : Int)) then
    name_Letter.j2 n a0_c true
  else
  name_Letter.j2 n a0_c (a0_c == (930 : Int))
/-- shunter/name.Digit -/
def name_Digit (n : Nat) (a0_c : Int) : Option Bool :=
  (name_between n a0_c (48 : Int) (57 : Int)).bind fun y1 =>
  some y1
/-- shunter/name.May -/
abbrev name_May.l0.X := ((Int × Unit) × ((ByteArray × Int × Unit) × Unit))
abbrev name_May.l0.Y := ((Int × Unit) × (Unit)) ⊕ ((Bool × Unit) × (Unit))
def name_May.l0.step.j1 (n : Nat) (L : name_May.l0.X → Option name_May.l0.Y) (x : name_May.l0.X) (j5 : Bool) : Option name_May.l0.Y :=
  if j5 then
    some (Sum.inr ((false, ()), (())))
  else
  let c6 := (IntKind.wrap .i64 (x.1.1 + (1 : Int)))
  L ((c6, ()), ((x.2.1.1, (((x.2.1.2.1.toNat + (Utf8.decode x.2.1.1 x.2.1.2.1.toNat).2) : Nat) : Int), ()), ()))
def name_May.l0.step (n : Nat) (L : name_May.l0.X → Option name_May.l0.Y) (x : name_May.l0.X) : Option name_May.l0.Y :=
  if decide (x.2.1.2.1.toNat < x.2.1.1.size) then
    (name_Letter n ((Utf8.decode x.2.1.1 x.2.1.2.1.toNat).1 : Int)).bind fun y1 =>
    if (!y1) then
      if (x.1.1 == (0 : Int)) then
        name_May.l0.step.j1 n L x true
      else
      (name_Digit n ((Utf8.decode x.2.1.1 x.2.1.2.1.toNat).1 : Int)).bind fun y2 =>
      if (!y2) then
        let c3 := (((Utf8.decode x.2.1.1 x.2.1.2.1.toNat).1 : Int) != (45 : Int))
        if c3 then
          let c4 := (((Utf8.decode x.2.1.1 x.2.1.2.1.toNat).1 : Int) != (46 : Int))
          name_May.l0.step.j1 n L x c4
        else
        name_May.l0.step.j1 n L x false
      else
      name_May.l0.step.j1 n L x false
    else
    name_May.l0.step.j1 n L x false
  else
  some (Sum.inl ((x.1.1, ()), (())))
def name_May.l0 (n m : Nat) (x : name_May.l0.X) : Option name_May.l0.Y := loop (name_May.l0.step n) m x
def name_May (n : Nat) (a0_s : ByteArray) : Option Bool :=
  (name_May.l0 n n (((0 : Int), ()), ((a0_s, (((0 : Nat) : Nat) : Int), ()), ()))).bind fun y7 =>
  sumE y7 (fun a8 =>
    let c10 := (decide (a8.1.1 ≥ (1 : Int)))
    if c10 then
      let c11 := (decide (a8.1.1 ≤ (24 : Int)))
      some c11
    else
    some false)
    (fun b9 =>
    some b9.1.1)
/-- shunter/image.within -/
def image_within (n : Nat) (a0_n : Int) (a1_lo : Int) (a2_hi : Int) : Option Bool :=
  if (decide (a0_n ≥ a1_lo)) then
    some (decide (a0_n ≤ a2_hi))
  else
  some false
/-- shunter/image.all -/
abbrev image_all.l0.X := (((Option (Nat → T_code_Two → Option Int)) × Int × Int × Unit) × (Unit))
abbrev image_all.l0.Y := ((Unit) × (Unit)) ⊕ ((Int × Int × Unit) × (Unit))
def image_all.l0.step (n : Nat) (L : image_all.l0.X → Option image_all.l0.Y) (x : image_all.l0.X) : Option image_all.l0.Y :=
  let c1 := (decide (x.1.2.2.1 < x.1.2.1))
  if c1 then
    (x.1.1).bind fun g2 =>
    (g2 n (x.1.2.2.1, ())).bind fun y3 =>
    if (y3 != (0 : Int)) then
      some (Sum.inr ((x.1.2.2.1, y3, ()), (())))
    else
    let c4 := (IntKind.wrap .i64 (x.1.2.2.1 + (1 : Int)))
    L ((x.1.1, x.1.2.1, c4, ()), (()))
  else
  some (Sum.inl ((()), (())))
def image_all.l0 (n m : Nat) (x : image_all.l0.X) : Option image_all.l0.Y := loop (image_all.l0.step n) m x
def image_all (n : Nat) (a0_n : Int) (a1_most : Int) (a2_ask : (Option (Nat → T_code_Two → Option Int))) : Option (Int × Int) :=
  if (decide (a0_n > a1_most)) then
    some ((0 : Int), (2 : Int))
  else
  (image_all.l0 n n ((a2_ask, a0_n, (0 : Int), ()), (()))).bind fun y5 =>
  sumE y5 (fun a6 =>
    some ((0 : Int), (0 : Int)))
    (fun b7 =>
    some (b7.1.1, b7.1.2.1))
/-- strings.Contains -/
def strings_Contains (n : Nat) (s t : ByteArray) : Option Bool := AM.contains1 s t
/-- shunter/shape.plain -/
def shape_plain (n : Nat) (a0_s : ByteArray) : Option Bool :=
  (name_May n a0_s).bind fun y1 =>
  if y1 then
    (strings_Contains n a0_s (⟨#[46]⟩ : ByteArray)).bind fun y2 =>
    some (!y2)
  else
  some false
/-- shunter/name.Fold -/
def name_Fold.j1 (n : Nat) (a0_c : Int) (j6 : Bool) : Option Int :=
  if j6 then
    let c7 := (IntKind.wrap .i32 (a0_c + (32 : Int)))
    some c7
  else
  (name_between n a0_c (1024 : Int) (1039 : Int)).bind fun y8 =>
  if y8 then
    let c9 := (IntKind.wrap .i32 (a0_c + (80 : Int)))
    some c9
  else
  if (a0_c == (962 : Int)) then
    some (963 : Int)
  else
  some a0_c
def name_Fold (n : Nat) (a0_c : Int) : Option Int :=
  (name_Letter n a0_c).bind fun y1 =>
  if (!y1) then
    some a0_c
  else
  (name_between n a0_c (65 : Int) (90 : Int)).bind fun y2 =>
  if y2 then
    name_Fold.j1 n a0_c true
  else
  (name_between n a0_c (192 : Int) (222 : Int)).bind fun y3 =>
  if y3 then
    name_Fold.j1 n a0_c true
  else
  (name_between n a0_c (913 : Int) (937 : Int)).bind fun y4 =>
  if y4 then
    name_Fold.j1 n a0_c true
  else
  (name_between n a0_c (1040 : Int) (1071 : Int)).bind fun y5 =>
  name_Fold.j1 n a0_c y5
/-- shunter/name.Key -/
def name_Key (n : Nat) (s : ByteArray) : Option ByteArray := AM.keyText (name_Fold n) s
/-- slices.IndexFunc[[]string,string] -/
abbrev slices_IndexFunc_string_string.l0.X := (((List ByteArray) × (Option (Nat → (ByteArray × Unit) → Option Bool)) × Int × Int × Unit) × (Unit))
abbrev slices_IndexFunc_string_string.l0.Y := ((Unit) × (Unit)) ⊕ ((Int × Unit) × (Unit))
def slices_IndexFunc_string_string.l0.step (n : Nat) (L : slices_IndexFunc_string_string.l0.X → Option slices_IndexFunc_string_string.l0.Y) (x : slices_IndexFunc_string_string.l0.X) : Option slices_IndexFunc_string_string.l0.Y :=
  let c1 := (decide (x.1.2.2.2.1 < x.1.2.2.1))
  if c1 then
    (AM.at? x.1.1 x.1.2.2.2.1).bind fun e2 =>
    (x.1.2.1).bind fun g3 =>
    (g3 n (e2, ())).bind fun y4 =>
    if y4 then
      some (Sum.inr ((x.1.2.2.2.1, ()), (())))
    else
    let c5 := (IntKind.wrap .i64 (x.1.2.2.2.1 + (1 : Int)))
    L ((x.1.1, x.1.2.1, x.1.2.2.1, c5, ()), (()))
  else
  some (Sum.inl ((()), (())))
def slices_IndexFunc_string_string.l0 (n m : Nat) (x : slices_IndexFunc_string_string.l0.X) : Option slices_IndexFunc_string_string.l0.Y := loop (slices_IndexFunc_string_string.l0.step n) m x
def slices_IndexFunc_string_string (n : Nat) (a0_s : (List ByteArray)) (a1_f : (Option (Nat → (ByteArray × Unit) → Option Bool))) : Option Int :=
  (slices_IndexFunc_string_string.l0 n n ((a0_s, a1_f, (a0_s.length : Int), (0 : Int), ()), (()))).bind fun y6 =>
  sumE y6 (fun a7 =>
    some (-1 : Int))
    (fun b8 =>
    some b8.1.1)
/-- shunter/name.Index$1 -/
def name_Index_1 (n : Nat) (a0_t : ByteArray) (a1 : (Option ByteArray)) : Option Bool :=
  (name_Key n a0_t).bind fun y1 =>
  (a1).bind fun p2 =>
  some (y1.toList == p2.toList)
/-- shunter/name.Index -/
def name_Index (n : Nat) (a0_l : (List ByteArray)) (a1_s : ByteArray) : Option Int :=
  (name_Key n a1_s).bind fun y1 =>
  let c2 := (some (fun n x => name_Index_1 n x.1 (some y1)))
  (slices_IndexFunc_string_string n a0_l c2).bind fun y3 =>
  some y3
/-- shunter/shape.within -/
def shape_within (n : Nat) (a0_n : Int) (a1_lo : Int) (a2_hi : Int) : Option Bool :=
  if (decide (a0_n ≥ a1_lo)) then
    some (decide (a0_n ≤ a2_hi))
  else
  some false
/-- shunter/shape.fields -/
abbrev shape_fields.l0.X := ((Int × (List T_api_Field) × Int × Int × Unit) × ((List ByteArray) × Unit))
abbrev shape_fields.l0.Y := ((Int × Unit) × (Unit)) ⊕ ((Int × Unit) × (Unit))
def shape_fields.l0.step (n : Nat) (L : shape_fields.l0.X → Option shape_fields.l0.Y) (x : shape_fields.l0.X) : Option shape_fields.l0.Y :=
  let c1 := (decide (x.1.2.2.2.1 < x.1.2.2.1))
  if c1 then
    (AM.at? x.1.2.1 x.1.2.2.2.1).bind fun e2 =>
    (shape_plain n e2.1).bind fun y3 =>
    if (!y3) then
      some (Sum.inr (((4 : Int), ()), (())))
    else
    (name_Index n x.2.1 e2.1).bind fun y4 =>
    if (decide (y4 ≥ (0 : Int))) then
      some (Sum.inr (((6 : Int), ()), (())))
    else
    (shape_within n e2.2.1 (1 : Int) (128 : Int)).bind fun y5 =>
    if (!y5) then
      some (Sum.inr (((9 : Int), ()), (())))
    else
    if decide (x.2.1.length + ([e2.1] : List ByteArray).length ≤ 8796093022208) then
    let c6 := (x.2.1 ++ ([e2.1] : List ByteArray))
    let c7 := (IntKind.wrap .i64 (x.1.1 + e2.2.1))
    let c8 := (IntKind.wrap .i64 (x.1.2.2.2.1 + (1 : Int)))
    L ((c7, x.1.2.1, x.1.2.2.1, c8, ()), (c6, ()))
    else none
  else
  some (Sum.inl ((x.1.1, ()), (())))
def shape_fields.l0 (n m : Nat) (x : shape_fields.l0.X) : Option shape_fields.l0.Y := loop (shape_fields.l0.step n) m x
def shape_fields (n : Nat) (a0_l : (List T_api_Field)) : Option Int :=
  (shape_fields.l0 n n (((0 : Int), a0_l, (a0_l.length : Int), (0 : Int), ()), (([] : List ByteArray), ()))).bind fun y9 =>
  sumE y9 (fun a10 =>
    let c12 := ((a10.1.1.tmod (8 : Int)) != (0 : Int))
    if c12 then
      some (9 : Int)
    else
    some (0 : Int))
    (fun b11 =>
    some b11.1.1)
/-- shunter/shape.varies -/
def shape_varies (n : Nat) (a0_h : T_api_Header) : Option Bool :=
  if (a0_h.2.2.1 == (0 : Int)) then
    if (a0_h.2.2.2.1 == (0 : Int)) then
      let c1 := (a0_h.2.2.2.2.1 == (0 : Int))
      if c1 then
        let c2 := (a0_h.2.2.2.2.2.1 == (0 : Int))
        some c2
      else
      some false
    else
    some false
  else
  (shape_within n a0_h.2.2.1 (1 : Int) (64 : Int)).bind fun y4 =>
  if y4 then
    let c5 := (IntKind.wrap .i64 ((a0_h.2.1.length : Int) - (1 : Int)))
    (shape_within n a0_h.2.2.2.1 (0 : Int) c5).bind fun y6 =>
    if y6 then
      (AM.at? a0_h.2.1 a0_h.2.2.2.1).bind fun e7 =>
      let c9 := (decide (e7.2.1 ≤ (16 : Int)))
      if c9 then
        (shape_within n a0_h.2.2.2.2.1 (1 : Int) (64 : Int)).bind fun y10 =>
        if y10 then
          (shape_within n a0_h.2.2.2.2.2.1 (0 : Int) (4096 : Int)).bind fun y11 =>
          some y11
        else
        some false
      else
      some false
    else
    some false
  else
  some false
/-- shunter/shape.May -/
def shape_May (n : Nat) (a0_h : T_api_Header) : Option Int :=
  (shape_plain n a0_h.1).bind fun y1 =>
  if (!y1) then
    some (4 : Int)
  else
  let c2 := (decide ((a0_h.2.1.length : Int) > (16 : Int)))
  if c2 then
    some (2 : Int)
  else
  let c3 := ((a0_h.2.1.length : Int) == (0 : Int))
  if c3 then
    some (5 : Int)
  else
  (shape_fields n a0_h.2.1).bind fun y4 =>
  if (y4 != (0 : Int)) then
    some y4
  else
  (shape_varies n a0_h).bind fun y5 =>
  if (!y5) then
    some (7 : Int)
  else
  some (0 : Int)
/-- shunter/name.Alike -/
def name_Alike (n : Nat) (a0_a : ByteArray) (a1_b : ByteArray) : Option Bool :=
  (name_Key n a0_a).bind fun y1 =>
  (name_Key n a1_b).bind fun y2 =>
  some (y1.toList == y2.toList)
/-- shunter/image.titled -/
abbrev image_titled.l0.X := (((Option (Nat → T_code_Two → Option ByteArray)) × ByteArray × Int × Int × Unit) × (Unit))
abbrev image_titled.l0.Y := ((Unit) × (Unit)) ⊕ ((Int × Unit) × (Unit))
def image_titled.l0.step (n : Nat) (L : image_titled.l0.X → Option image_titled.l0.Y) (x : image_titled.l0.X) : Option image_titled.l0.Y :=
  let c5 := (decide (x.1.2.2.2.1 < x.1.2.2.1))
  if c5 then
    (x.1.1).bind fun g6 =>
    (g6 n (x.1.2.2.2.1, ())).bind fun y7 =>
    (name_Alike n y7 x.1.2.1).bind fun y8 =>
    if y8 then
      some (Sum.inr (((6 : Int), ()), (())))
    else
    let c9 := (IntKind.wrap .i64 (x.1.2.2.2.1 + (1 : Int)))
    L ((x.1.1, x.1.2.1, x.1.2.2.1, c9, ()), (()))
  else
  some (Sum.inl ((()), (())))
def image_titled.l0 (n m : Nat) (x : image_titled.l0.X) : Option image_titled.l0.Y := loop (image_titled.l0.step n) m x
def image_titled (n : Nat) (a0_i : Int) (a1_of : (Option (Nat → T_code_Two → Option ByteArray))) : Option Int :=
  (a1_of).bind fun g1 =>
  (g1 n (a0_i, ())).bind fun y2 =>
  let c3 := ([((⟨#[120]⟩ : ByteArray), (8 : Int), ())] : List T_api_Field)
  (shape_May n (y2, c3, (0 : Int), (0 : Int), (0 : Int), (0 : Int), ())).bind fun y4 =>
  if (y4 != (0 : Int)) then
    some (4 : Int)
  else
  (image_titled.l0 n n ((a1_of, y2, a0_i, (0 : Int), ()), (()))).bind fun y10 =>
  sumE y10 (fun a11 =>
    some (0 : Int))
    (fun b12 =>
    some b12.1.1)
/-- (*shunter/image.checker).header$1 -/
def image_checker_header_1 (n : Nat) (a0_k : Int) (a1 : (Option (Option T_image_checker))) : Option ByteArray :=
  (a1).bind fun p1 =>
  (p1).bind fun p2 =>
  (AM.at? p2.1.2.1 a0_k).bind fun e5 =>
  some e5.1
/-- (*shunter/image.checker).header -/
def image_checker_header (n : Nat) (a0_c : (Option T_image_checker)) (a1_i : Int) : Option Int :=
  (a0_c).bind fun p1 =>
  (AM.at? p1.1.2.1 a1_i).bind fun e4 =>
  (shape_May n e4).bind fun y5 =>
  if (y5 != (0 : Int)) then
    some y5
  else
  let c6 := (some (fun n x => image_checker_header_1 n x.1 (some a0_c)))
  (image_titled n a1_i c6).bind fun y7 =>
  some y7
/-- shunter/shape.many -/
def shape_many (n : Nat) (a0_x : T_api_Inst) : Option Int :=
  (shape_within n a0_x.2.2.1 (0 : Int) (4 : Int)).bind fun y1 =>
  if (!y1) then
    some (0 : Int)
  else
  let c2 := (if (1 : Int) > a0_x.2.2.1 then (1 : Int) else a0_x.2.2.1)
  some c2
/-- shunter/shape.Slots -/
abbrev shape_Slots.l0.X := ((Int × (List T_api_Inst) × Int × Int × Unit) × (Unit))
abbrev shape_Slots.l0.Y := ((Int × Unit) × (Unit))
def shape_Slots.l0.step (n : Nat) (L : shape_Slots.l0.X → Option shape_Slots.l0.Y) (x : shape_Slots.l0.X) : Option shape_Slots.l0.Y :=
  let c1 := (decide (x.1.2.2.2.1 < x.1.2.2.1))
  if c1 then
    (AM.at? x.1.2.1 x.1.2.2.2.1).bind fun e2 =>
    (shape_many n e2).bind fun y3 =>
    let c4 := (IntKind.wrap .i64 (x.1.1 + y3))
    let c5 := (IntKind.wrap .i64 (x.1.2.2.2.1 + (1 : Int)))
    L ((c4, x.1.2.1, x.1.2.2.1, c5, ()), (()))
  else
  some ((x.1.1, ()), (()))
def shape_Slots.l0 (n m : Nat) (x : shape_Slots.l0.X) : Option shape_Slots.l0.Y := loop (shape_Slots.l0.step n) m x
def shape_Slots (n : Nat) (a0_l : (List T_api_Inst)) : Option Int :=
  (shape_Slots.l0 n n (((0 : Int), a0_l, (a0_l.length : Int), (0 : Int), ()), (()))).bind fun y6 =>
  some y6.1.1
/-- shunter/shape.Insts -/
abbrev shape_Insts.l0.X := (((List T_api_Header) × (List T_api_Inst) × (List T_api_Inst) × Int × Int × Unit) × ((List ByteArray) × Unit))
abbrev shape_Insts.l0.Y := (((List T_api_Inst) × Unit) × (Unit)) ⊕ ((Int × Unit) × (Unit))
def shape_Insts.l0.step (n : Nat) (L : shape_Insts.l0.X → Option shape_Insts.l0.Y) (x : shape_Insts.l0.X) : Option shape_Insts.l0.Y :=
  let c2 := (decide (x.1.2.2.2.2.1 < x.1.2.2.2.1))
  if c2 then
    (AM.at? x.1.2.2.1 x.1.2.2.2.2.1).bind fun e3 =>
    (shape_plain n e3.1).bind fun y4 =>
    if (!y4) then
      some (Sum.inr (((4 : Int), ()), (())))
    else
    (name_Index n x.2.1 e3.1).bind fun y5 =>
    if (decide (y5 ≥ (0 : Int))) then
      some (Sum.inr (((6 : Int), ()), (())))
    else
    let c6 := (IntKind.wrap .i64 ((x.1.1.length : Int) - (1 : Int)))
    (shape_within n e3.2.1 (0 : Int) c6).bind fun y7 =>
    if (!y7) then
      some (Sum.inr (((5 : Int), ()), (())))
    else
    (shape_within n e3.2.2.1 (0 : Int) (4 : Int)).bind fun y8 =>
    if (!y8) then
      some (Sum.inr (((7 : Int), ()), (())))
    else
    if decide (x.2.1.length + ([e3.1] : List ByteArray).length ≤ 8796093022208) then
    let c9 := (x.2.1 ++ ([e3.1] : List ByteArray))
    let c10 := (IntKind.wrap .i64 (x.1.2.2.2.2.1 + (1 : Int)))
    L ((x.1.1, x.1.2.1, x.1.2.2.1, x.1.2.2.2.1, c10, ()), (c9, ()))
    else none
  else
  some (Sum.inl ((x.1.2.1, ()), (())))
def shape_Insts.l0 (n m : Nat) (x : shape_Insts.l0.X) : Option shape_Insts.l0.Y := loop (shape_Insts.l0.step n) m x
def shape_Insts (n : Nat) (a0_headers : (List T_api_Header)) (a1_l : (List T_api_Inst)) : Option Int :=
  let c1 := (decide ((a1_l.length : Int) > (16 : Int)))
  if c1 then
    some (2 : Int)
  else
  (shape_Insts.l0 n n ((a0_headers, a1_l, a1_l, (a1_l.length : Int), (0 : Int), ()), (([] : List ByteArray), ()))).bind fun y11 =>
  sumE y11 (fun a12 =>
    (shape_Slots n a12.1.1).bind fun y14 =>
    if (decide (y14 > (32 : Int))) then
      some (8 : Int)
    else
    some (0 : Int))
    (fun b13 =>
    some b13.1.1)
/-- (*shunter/image.checker).meta$1 -/
def image_checker_meta_1 (n : Nat) (a0_k : Int) (a1 : (Option (Option T_image_checker))) : Option ByteArray :=
  (a1).bind fun p1 =>
  (p1).bind fun p2 =>
  (AM.at? p2.1.2.2.2.1 a0_k).bind fun e5 =>
  some e5.1
/-- (*shunter/image.checker).meta -/
def image_checker_meta (n : Nat) (a0_c : (Option T_image_checker)) (a1_i : Int) : Option Int :=
  let c1 := (some (fun n x => image_checker_meta_1 n x.1 (some a0_c)))
  (image_titled n a1_i c1).bind fun y2 =>
  (a0_c).bind fun p3 =>
  (AM.at? p3.1.2.2.2.1 a1_i).bind fun e6 =>
  (image_within n e6.2.1 (1 : Int) (128 : Int)).bind fun y8 =>
  (image_wants n y8 (9 : Int)).bind fun y9 =>
  (image_first n ([y2, y9] : List Int)).bind fun y10 =>
  some y10
/-- (*shunter/image.checker).state$1 -/
def image_checker_state_1 (n : Nat) (a0_k : Int) (a1 : (Option (Option T_image_checker))) : Option ByteArray :=
  (a1).bind fun p1 =>
  (p1).bind fun p2 =>
  (AM.at? p2.1.2.2.2.2.1 a0_k).bind fun e5 =>
  some e5.1
/-- shunter/shape.Of -/
abbrev shape_Of.l0.X := ((Int × (List T_api_Inst) × Int × Int × Unit) × (Unit))
abbrev shape_Of.l0.Y := ((Unit) × (Unit)) ⊕ ((Int × Int × Bool × Unit) × (Unit))
def shape_Of.l0.step (n : Nat) (L : shape_Of.l0.X → Option shape_Of.l0.Y) (x : shape_Of.l0.X) : Option shape_Of.l0.Y :=
  let c2 := (decide (x.1.2.2.2.1 < x.1.2.2.1))
  if c2 then
    (AM.at? x.1.2.1 x.1.2.2.2.1).bind fun e3 =>
    (shape_many n e3).bind fun y4 =>
    if (decide (x.1.1 < y4)) then
      some (Sum.inr ((x.1.2.2.2.1, x.1.1, true, ()), (())))
    else
    (shape_many n e3).bind fun y5 =>
    let c6 := (IntKind.wrap .i64 (x.1.1 - y5))
    let c7 := (IntKind.wrap .i64 (x.1.2.2.2.1 + (1 : Int)))
    L ((c6, x.1.2.1, x.1.2.2.1, c7, ()), (()))
  else
  some (Sum.inl ((()), (())))
def shape_Of.l0 (n m : Nat) (x : shape_Of.l0.X) : Option shape_Of.l0.Y := loop (shape_Of.l0.step n) m x
def shape_Of (n : Nat) (a0_l : (List T_api_Inst)) (a1_slot : Int) : Option (Int × (Int × Bool)) :=
  let c1 := (decide (a1_slot < (0 : Int)))
  if c1 then
    some ((0 : Int), (0 : Int), false)
  else
  (shape_Of.l0 n n ((a1_slot, a0_l, (a0_l.length : Int), (0 : Int), ()), (()))).bind fun y8 =>
  sumE y8 (fun a9 =>
    some ((0 : Int), (0 : Int), false))
    (fun b10 =>
    some (b10.1.1, b10.1.2.1, b10.1.2.2.1))
/-- shunter/shape.Header -/
def shape_Header (n : Nat) (a0_headers : (List T_api_Header)) (a1_l : (List T_api_Inst)) (a2_slot : Int) : Option (T_api_Header × Bool) :=
  (shape_Of n a1_l a2_slot).bind fun y1 =>
  if (!y1.2.2) then
    some (((⟨#[]⟩ : ByteArray), ([] : List T_api_Field), (0 : Int), (0 : Int), (0 : Int), (0 : Int), ()), false)
  else
  (AM.at? a1_l y1.1).bind fun e2 =>
  let c4 := (IntKind.wrap .i64 ((a0_headers.length : Int) - (1 : Int)))
  (shape_within n e2.2.1 (0 : Int) c4).bind fun y5 =>
  if (!y5) then
    some (((⟨#[]⟩ : ByteArray), ([] : List T_api_Field), (0 : Int), (0 : Int), (0 : Int), (0 : Int), ()), false)
  else
  (AM.at? a1_l y1.1).bind fun e7 =>
  (AM.at? a0_headers e7.2.1).bind fun e9 =>
  some (e9, true)
/-- shunter/image.Slot -/
def image_Slot (n : Nat) (a0_m : T_api_Image) (a1_slot : Int) : Option (T_api_Header × Bool) :=
  (shape_Header n a0_m.2.1 a0_m.2.2.1 a1_slot).bind fun y1 =>
  some (y1.1, y1.2)
/-- (*shunter/image.checker).instance -/
abbrev image_checker_instance.l0.X := ((Int × Int × (List T_api_Inst) × Int × Int × Unit) × (Unit))
abbrev image_checker_instance.l0.Y := ((Unit) × (Unit)) ⊕ ((Int × Bool × Unit) × (Unit))
def image_checker_instance.l0.step (n : Nat) (L : image_checker_instance.l0.X → Option image_checker_instance.l0.Y) (x : image_checker_instance.l0.X) : Option image_checker_instance.l0.Y :=
  let c7 := (decide (x.1.2.2.2.2.1 < x.1.2.2.2.1))
  if c7 then
    (AM.at? x.1.2.2.1 x.1.2.2.2.2.1).bind fun e8 =>
    let c9 := (if (1 : Int) > e8.2.2.1 then (1 : Int) else e8.2.2.1)
    let c10 := (IntKind.wrap .i64 (x.1.2.1 + c9))
    if (decide (x.1.1 < c10)) then
      some (Sum.inr ((x.1.2.2.2.2.1, true, ()), (())))
    else
    let c11 := (IntKind.wrap .i64 (x.1.2.2.2.2.1 + (1 : Int)))
    L ((x.1.1, c10, x.1.2.2.1, x.1.2.2.2.1, c11, ()), (()))
  else
  some (Sum.inl ((()), (())))
def image_checker_instance.l0 (n m : Nat) (x : image_checker_instance.l0.X) : Option image_checker_instance.l0.Y := loop (image_checker_instance.l0.step n) m x
def image_checker_instance (n : Nat) (a0_c : (Option T_image_checker)) (a1_slot : Int) : Option (Int × Bool) :=
  (a0_c).bind fun p1 =>
  (image_Slot n p1.1 a1_slot).bind fun y3 =>
  if (!y3.2) then
    some ((0 : Int), false)
  else
  (a0_c).bind fun p4 =>
  (image_checker_instance.l0 n n ((a1_slot, (0 : Int), p4.1.2.2.1, (p4.1.2.2.1.length : Int), (0 : Int), ()), (()))).bind fun y12 =>
  sumE y12 (fun a13 =>
    some ((0 : Int), false))
    (fun b14 =>
    some (b14.1.1, b14.1.2.1))
/-- shunter/shape.First -/
def shape_First (n : Nat) (a0_l : (List T_api_Inst)) (a1_i : Int) : Option (Int × Bool) :=
  let c1 := (IntKind.wrap .i64 ((a0_l.length : Int) - (1 : Int)))
  (shape_within n a1_i (0 : Int) c1).bind fun y2 =>
  if (!y2) then
    some ((0 : Int), false)
  else
  (AM.at? a0_l a1_i).bind fun e3 =>
  (shape_many n e3).bind fun y4 =>
  if (y4 == (0 : Int)) then
    some ((0 : Int), false)
  else
  if (decide (0 ≤ a1_i) && decide (a1_i ≤ (a0_l.length : Int)) && decide (0 ≤ (0 : Int)) && decide ((0 : Int) ≤ a1_i)) then
  let c6 := ((a0_l.take a1_i.toNat).drop (0 : Int).toNat)
  (shape_Slots n c6).bind fun y7 =>
  some (y7, true)
  else none
/-- shunter/image.Stacked -/
def image_Stacked (n : Nat) (a0_m : T_api_Image) (a1_inst : Int) : Option (Int × (Int × Bool)) :=
  (shape_First n a0_m.2.2.1 a1_inst).bind fun y1 =>
  if (!y1.2) then
    some ((0 : Int), (0 : Int), false)
  else
  (AM.at? a0_m.2.2.1 a1_inst).bind fun e2 =>
  if (e2.2.2.1 == (0 : Int)) then
    some ((0 : Int), (0 : Int), false)
  else
  (AM.at? a0_m.2.2.1 a1_inst).bind fun e5 =>
  some (y1.1, e5.2.2.1, true)
/-- (*shunter/image.checker).ext -/
def image_checker_ext (n : Nat) (a0_c : (Option T_image_checker)) (a1_x : T_api_Sum) : Option Int :=
  if (a1_x.1 == (0 : Int)) then
    (image_checker_instance n a0_c a1_x.2.1).bind fun y1 =>
    if y1.2 then
      (a0_c).bind fun p2 =>
      (AM.at? p2.1.2.2.1 y1.1).bind fun e5 =>
      (image_wants n (e5.2.2.1 == (0 : Int)) (5 : Int)).bind fun y7 =>
      some y7
    else
    (image_wants n false (5 : Int)).bind fun y8 =>
    some y8
  else
  if (a1_x.1 == (1 : Int)) then
    (a0_c).bind fun p10 =>
    (image_Stacked n p10.1 a1_x.2.1).bind fun y12 =>
    (image_wants n y12.2.2 (5 : Int)).bind fun y13 =>
    some y13
  else
  if (a1_x.1 == (2 : Int)) then
    (image_within n a1_x.2.1 (1 : Int) (64 : Int)).bind fun y14 =>
    (image_wants n y14 (7 : Int)).bind fun y15 =>
    some y15
  else
  some (10 : Int)
/-- shunter/image.Field -/
def image_Field (n : Nat) (a0_m : T_api_Image) (a1_slot : Int) (a2_f : Int) : Option (Int × Bool) :=
  (image_Slot n a0_m a1_slot).bind fun y1 =>
  if (!y1.2) then
    some ((0 : Int), false)
  else
  let c2 := (IntKind.wrap .i64 ((y1.1.2.1.length : Int) - (1 : Int)))
  (image_within n a2_f (0 : Int) c2).bind fun y3 =>
  if (!y3) then
    some ((0 : Int), false)
  else
  (AM.at? y1.1.2.1 a2_f).bind fun e5 =>
  some (e5.2.1, true)
/-- shunter/image.given -/
def image_given (n : Nat) : Option (List Int) :=
  some [(8 : Int), (8 : Int), (8 : Int), (1 : Int), (8 : Int), (1 : Int), (16 : Int), (8 : Int)]
/-- shunter/image.Meta -/
def image_Meta.j1 (n : Nat) (a0_m : T_api_Image) (a1_i : Int) (j6 : Bool) : Option (Int × Bool) :=
  if j6 then
    let c7 := (IntKind.wrap .i64 (a1_i - (8 : Int)))
    (AM.at? a0_m.2.2.2.1 c7).bind fun e8 =>
    some (e8.2.1, true)
  else
  some ((0 : Int), false)
def image_Meta (n : Nat) (a0_m : T_api_Image) (a1_i : Int) : Option (Int × Bool) :=
  (image_within n a1_i (0 : Int) (7 : Int)).bind fun y1 =>
  if y1 then
    (image_given n).bind fun y2 =>
    (AM.at? y2 a1_i).bind fun e3 =>
    some (e3, true)
  else
  if (decide (a1_i ≥ (0 : Int))) then
    let c4 := (IntKind.wrap .i64 (a1_i - (8 : Int)))
    let c5 := (decide (c4 < (a0_m.2.2.2.1.length : Int)))
    image_Meta.j1 n a0_m a1_i c5
  else
  image_Meta.j1 n a0_m a1_i false
/-- shunter/image.part -/
def image_part (n : Nat) (a0_m : T_api_Image) (a1_k : T_image_Flaw) : Option (Int × Bool) :=
  if (a1_k.1 == (0 : Int)) then
    (image_Field n a0_m a1_k.2.1 a1_k.2.2.1).bind fun y1 =>
    some (y1.1, y1.2)
  else
  if (a1_k.1 == (1 : Int)) then
    (image_Meta n a0_m a1_k.2.1).bind fun y2 =>
    some (y2.1, y2.2)
  else
  if (a1_k.1 == (2 : Int)) then
    (image_within n a1_k.2.1 (0 : Int) (1024 : Int)).bind fun y3 =>
    if y3 then
      (image_within n a1_k.2.2.1 (1 : Int) (64 : Int)).bind fun y4 =>
      some (a1_k.2.2.1, y4)
    else
    some (a1_k.2.2.1, false)
  else
  some ((0 : Int), false)
/-- shunter/image.Key -/
abbrev image_Key.l0.X := ((Int × (List T_image_Flaw) × Int × Int × Unit) × (T_api_Image × Unit))
abbrev image_Key.l0.Y := ((Int × Unit) × (Unit)) ⊕ ((Int × Bool × Unit) × (Unit))
def image_Key.l0.step (n : Nat) (L : image_Key.l0.X → Option image_Key.l0.Y) (x : image_Key.l0.X) : Option image_Key.l0.Y :=
  let c1 := (decide (x.1.2.2.2.1 < x.1.2.2.1))
  if c1 then
    (AM.at? x.1.2.1 x.1.2.2.2.1).bind fun e2 =>
    (image_part n x.2.1 e2).bind fun y3 =>
    if (!y3.2) then
      some (Sum.inr (((0 : Int), false, ()), (())))
    else
    let c4 := (IntKind.wrap .i64 ((128 : Int) - x.1.1))
    (image_within n y3.1 (1 : Int) c4).bind fun y5 =>
    if (!y5) then
      some (Sum.inr (((0 : Int), false, ()), (())))
    else
    let c7 := (IntKind.wrap .i64 (x.1.1 + y3.1))
    let c8 := (IntKind.wrap .i64 (x.1.2.2.2.1 + (1 : Int)))
    L ((c7, x.1.2.1, x.1.2.2.1, c8, ()), (x.2.1, ()))
  else
  some (Sum.inl ((x.1.1, ()), (())))
def image_Key.l0 (n m : Nat) (x : image_Key.l0.X) : Option image_Key.l0.Y := loop (image_Key.l0.step n) m x
def image_Key (n : Nat) (a0_m : T_api_Image) (a1_l : (List T_image_Flaw)) : Option (Int × Bool) :=
  (image_Key.l0 n n (((0 : Int), a1_l, (a1_l.length : Int), (0 : Int), ()), (a0_m, ()))).bind fun y9 =>
  sumE y9 (fun a10 =>
    some (a10.1.1, true))
    (fun b11 =>
    some (b11.1.1, b11.1.2.1))
/-- (*shunter/image.checker).key -/
abbrev image_checker_key.l0.X := (((Option T_image_checker) × (List T_image_Flaw) × Bool × (List T_image_Flaw) × Int × Int × Unit) × (Unit))
abbrev image_checker_key.l0.Y := (((Option T_image_checker) × (List T_image_Flaw) × Unit) × (Unit)) ⊕ ((Int × Unit) × (Unit))
def image_checker_key.l0.step.j1 (n : Nat) (L : image_checker_key.l0.X → Option image_checker_key.l0.Y) (x : image_checker_key.l0.X) (y6 : (Int × Bool)) (j9 : Bool) : Option image_checker_key.l0.Y :=
  if j9 then
    some (Sum.inr (((7 : Int), ()), (())))
  else
  if (!y6.2) then
    some (Sum.inr (((5 : Int), ()), (())))
  else
  let c10 := (IntKind.wrap .i64 (x.1.2.2.2.2.2.1 + (1 : Int)))
  L ((x.1.1, x.1.2.1, x.1.2.2.1, x.1.2.2.2.1, x.1.2.2.2.2.1, c10, ()), (()))
def image_checker_key.l0.step.j2 (n : Nat) (L : image_checker_key.l0.X → Option image_checker_key.l0.Y) (x : image_checker_key.l0.X) (e3 : T_image_Flaw) (y6 : (Int × Bool)) (j8 : Bool) : Option image_checker_key.l0.Y :=
  if j8 then
    some (Sum.inr (((10 : Int), ()), (())))
  else
  if (!y6.2) then
    if (e3.1 == (2 : Int)) then
      image_checker_key.l0.step.j1 n L x y6 true
    else
    if (e3.1 == (1 : Int)) then
      if y6.2 then
        image_checker_key.l0.step.j1 n L x y6 (e3.2.2.1 != (0 : Int))
      else
      image_checker_key.l0.step.j1 n L x y6 false
    else
    image_checker_key.l0.step.j1 n L x y6 false
  else
  if (e3.1 == (1 : Int)) then
    if y6.2 then
      image_checker_key.l0.step.j1 n L x y6 (e3.2.2.1 != (0 : Int))
    else
    image_checker_key.l0.step.j1 n L x y6 false
  else
  image_checker_key.l0.step.j1 n L x y6 false
def image_checker_key.l0.step (n : Nat) (L : image_checker_key.l0.X → Option image_checker_key.l0.Y) (x : image_checker_key.l0.X) : Option image_checker_key.l0.Y :=
  let c2 := (decide (x.1.2.2.2.2.2.1 < x.1.2.2.2.2.1))
  if c2 then
    (AM.at? x.1.2.2.2.1 x.1.2.2.2.2.2.1).bind fun e3 =>
    (x.1.1).bind fun p4 =>
    (image_part n p4.1 e3).bind fun y6 =>
    (image_within n e3.1 (0 : Int) (2 : Int)).bind fun y7 =>
    if (!y7) then
      image_checker_key.l0.step.j2 n L x e3 y6 true
    else
    if (e3.1 == (2 : Int)) then
      image_checker_key.l0.step.j2 n L x e3 y6 (!x.1.2.2.1)
    else
    image_checker_key.l0.step.j2 n L x e3 y6 false
  else
  some (Sum.inl ((x.1.1, x.1.2.1, ()), (())))
def image_checker_key.l0 (n m : Nat) (x : image_checker_key.l0.X) : Option image_checker_key.l0.Y := loop (image_checker_key.l0.step n) m x
def image_checker_key (n : Nat) (a0_c : (Option T_image_checker)) (a1_l : (List T_image_Flaw)) (a2_looks : Bool) : Option Int :=
  let c1 := (decide ((a1_l.length : Int) > (4 : Int)))
  if c1 then
    some (2 : Int)
  else
  (image_checker_key.l0 n n ((a0_c, a1_l, a2_looks, a1_l, (a1_l.length : Int), (0 : Int), ()), (()))).bind fun y11 =>
  sumE y11 (fun a12 =>
    (a12.1.1).bind fun p14 =>
    (image_Key n p14.1 a12.1.2.1).bind fun y16 =>
    (image_wants n y16.2 (9 : Int)).bind fun y17 =>
    some y17)
    (fun b13 =>
    some b13.1.1)
/-- shunter/vec.Word -/
def vec_Word (n : Nat) (a0_v : T_api_Vec) : Option T_word_Word :=
  some (a0_v.2.1, a0_v.2.2.1, ())
/-- shunter/vec.width -/
def vec_width (n : Nat) (a0_w : Int) : Option Bool :=
  if (decide (a0_w ≥ (1 : Int))) then
    let c1 := (decide (a0_w ≤ (128 : Int)))
    some c1
  else
  some false
/-- math/bits.Len64 -/
def math_bits_Len64 (n : Nat) (x : Int) : Option Int := AM.len64 x
/-- shunter/word.Len -/
def word_Len (n : Nat) (a0_a : T_word_Word) : Option Int :=
  let c1 := (decide (a0_a.1 > (0 : Int)))
  if c1 then
    (math_bits_Len64 n a0_a.1).bind fun y2 =>
    let c3 := (IntKind.wrap .i64 ((64 : Int) + y2))
    some c3
  else
  (math_bits_Len64 n a0_a.2.1).bind fun y4 =>
  some y4
/-- shunter/vec.May -/
def vec_May (n : Nat) (a0_v : T_api_Vec) : Option Bool :=
  (vec_width n a0_v.1).bind fun y1 =>
  if y1 then
    (vec_Word n a0_v).bind fun y2 =>
    (word_Len n y2).bind fun y3 =>
    some (decide (y3 ≤ a0_v.1))
  else
  some false
/-- (*shunter/image.checker).next -/
def image_checker_next (n : Nat) (a0_c : (Option T_image_checker)) (a1_n : Int) : Option Int :=
  (a0_c).bind fun p1 =>
  let c4 := (IntKind.wrap .i64 ((p1.1.2.2.2.2.1.length : Int) - (1 : Int)))
  (image_within n a1_n (0 : Int) c4).bind fun y5 =>
  if y5 then
    (image_wants n true (5 : Int)).bind fun y6 =>
    some y6
  else
  if (a1_n == (-1 : Int)) then
    (image_wants n true (5 : Int)).bind fun y7 =>
    some y7
  else
  (image_wants n (a1_n == (-2 : Int)) (5 : Int)).bind fun y8 =>
  some y8
/-- shunter/word.And -/
def word_And (n : Nat) (a0_a : T_word_Word) (a1_b : T_word_Word) : Option T_word_Word :=
  let c1 := (AM.bits .and .u64 a0_a.1 a1_b.1)
  let c2 := (AM.bits .and .u64 a0_a.2.1 a1_b.2.1)
  some (c1, c2, ())
/-- shunter/vec.row -/
def vec_row (n : Nat) (a0_w : Int) (a1_x : T_word_Word) : Option T_api_Vec :=
  some (a0_w, a1_x.1, a1_x.2.1, ())
/-- shunter/word.Shr -/
def word_Shr.r0 (n : Nat) (a0 : T_word_Word) (a1 : Int) : Option T_word_Word := none
/-- shunter/word.Shl -/
def word_Shl.r0 (n : Nat) (a0 : T_word_Word) (a1 : Int) : Option T_word_Word := none
/-- shunter/word.Shl -/
def word_Shl.r1.j1 (n : Nat) (a0_a : T_word_Word) (a1_n : Int) (j3 : Bool) : Option T_word_Word :=
  if j3 then
    some ((0 : Int), (0 : Int), ())
  else
  if (decide (a1_n < (0 : Int))) then
    let c4 := (IntKind.wrap .i64 (0 - a1_n))
    (word_Shr.r0 n a0_a c4).bind fun y5 =>
    some y5
  else
  if (a1_n == (0 : Int)) then
    some a0_a
  else
  if (decide (a1_n ≥ (64 : Int))) then
    let c6 := (IntKind.wrap .i64 (a1_n - (64 : Int)))
    if decide (c6 < 0) then none else
    some ((AM.shiftL .u64 a0_a.2.1 c6), (0 : Int), ())
  else
  if decide (a1_n < 0) then none else
  let c7 := (IntKind.wrap .i64 ((64 : Int) - a1_n))
  if decide (c7 < 0) then none else
  let c8 := (AM.bits .or .u64 (AM.shiftL .u64 a0_a.1 a1_n) (AM.shiftR .u64 a0_a.2.1 c7))
  if decide (a1_n < 0) then none else
  let c9 := (AM.shiftL .u64 a0_a.2.1 a1_n)
  some (c8, c9, ())
def word_Shl.r1 (n : Nat) (a0_a : T_word_Word) (a1_n : Int) : Option T_word_Word :=
  let c1 := (decide (a1_n ≤ (-128 : Int)))
  if c1 then
    word_Shl.r1.j1 n a0_a a1_n true
  else
  let c2 := (decide (a1_n ≥ (128 : Int)))
  word_Shl.r1.j1 n a0_a a1_n c2
/-- shunter/word.Shr -/
def word_Shr.r1.j1 (n : Nat) (a0_a : T_word_Word) (a1_n : Int) (j3 : Bool) : Option T_word_Word :=
  if j3 then
    some ((0 : Int), (0 : Int), ())
  else
  if (decide (a1_n < (0 : Int))) then
    let c4 := (IntKind.wrap .i64 (0 - a1_n))
    (word_Shl.r1 n a0_a c4).bind fun y5 =>
    some y5
  else
  if (a1_n == (0 : Int)) then
    some a0_a
  else
  if (decide (a1_n ≥ (64 : Int))) then
    let c6 := (IntKind.wrap .i64 (a1_n - (64 : Int)))
    if decide (c6 < 0) then none else
    some ((0 : Int), (AM.shiftR .u64 a0_a.1 c6), ())
  else
  if decide (a1_n < 0) then none else
  if decide (a1_n < 0) then none else
  let c7 := (AM.shiftR .u64 a0_a.2.1 a1_n)
  let c8 := (IntKind.wrap .i64 ((64 : Int) - a1_n))
  if decide (c8 < 0) then none else
  let c9 := (AM.bits .or .u64 c7 (AM.shiftL .u64 a0_a.1 c8))
  some ((AM.shiftR .u64 a0_a.1 a1_n), c9, ())
def word_Shr.r1 (n : Nat) (a0_a : T_word_Word) (a1_n : Int) : Option T_word_Word :=
  let c1 := (decide (a1_n ≤ (-128 : Int)))
  if c1 then
    word_Shr.r1.j1 n a0_a a1_n true
  else
  let c2 := (decide (a1_n ≥ (128 : Int)))
  word_Shr.r1.j1 n a0_a a1_n c2
/-- shunter/word.Shl -/
def word_Shl.j1 (n : Nat) (a0_a : T_word_Word) (a1_n : Int) (j3 : Bool) : Option T_word_Word :=
  if j3 then
    some ((0 : Int), (0 : Int), ())
  else
  if (decide (a1_n < (0 : Int))) then
    let c4 := (IntKind.wrap .i64 (0 - a1_n))
    (word_Shr.r1 n a0_a c4).bind fun y5 =>
    some y5
  else
  if (a1_n == (0 : Int)) then
    some a0_a
  else
  if (decide (a1_n ≥ (64 : Int))) then
    let c6 := (IntKind.wrap .i64 (a1_n - (64 : Int)))
    if decide (c6 < 0) then none else
    some ((AM.shiftL .u64 a0_a.2.1 c6), (0 : Int), ())
  else
  if decide (a1_n < 0) then none else
  let c7 := (IntKind.wrap .i64 ((64 : Int) - a1_n))
  if decide (c7 < 0) then none else
  let c8 := (AM.bits .or .u64 (AM.shiftL .u64 a0_a.1 a1_n) (AM.shiftR .u64 a0_a.2.1 c7))
  if decide (a1_n < 0) then none else
  let c9 := (AM.shiftL .u64 a0_a.2.1 a1_n)
  some (c8, c9, ())
def word_Shl (n : Nat) (a0_a : T_word_Word) (a1_n : Int) : Option T_word_Word :=
  let c1 := (decide (a1_n ≤ (-128 : Int)))
  if c1 then
    word_Shl.j1 n a0_a a1_n true
  else
  let c2 := (decide (a1_n ≥ (128 : Int)))
  word_Shl.j1 n a0_a a1_n c2
/-- shunter/word.Shr -/
def word_Shr.j1 (n : Nat) (a0_a : T_word_Word) (a1_n : Int) (j3 : Bool) : Option T_word_Word :=
  if j3 then
    some ((0 : Int), (0 : Int), ())
  else
  if (decide (a1_n < (0 : Int))) then
    let c4 := (IntKind.wrap .i64 (0 - a1_n))
    (word_Shl n a0_a c4).bind fun y5 =>
    some y5
  else
  if (a1_n == (0 : Int)) then
    some a0_a
  else
  if (decide (a1_n ≥ (64 : Int))) then
    let c6 := (IntKind.wrap .i64 (a1_n - (64 : Int)))
    if decide (c6 < 0) then none else
    some ((0 : Int), (AM.shiftR .u64 a0_a.1 c6), ())
  else
  if decide (a1_n < 0) then none else
  if decide (a1_n < 0) then none else
  let c7 := (AM.shiftR .u64 a0_a.2.1 a1_n)
  let c8 := (IntKind.wrap .i64 ((64 : Int) - a1_n))
  if decide (c8 < 0) then none else
  let c9 := (AM.bits .or .u64 c7 (AM.shiftL .u64 a0_a.1 c8))
  some ((AM.shiftR .u64 a0_a.1 a1_n), c9, ())
def word_Shr (n : Nat) (a0_a : T_word_Word) (a1_n : Int) : Option T_word_Word :=
  let c1 := (decide (a1_n ≤ (-128 : Int)))
  if c1 then
    word_Shr.j1 n a0_a a1_n true
  else
  let c2 := (decide (a1_n ≥ (128 : Int)))
  word_Shr.j1 n a0_a a1_n c2
/-- shunter/word.Not -/
def word_Not (n : Nat) (a0_a : T_word_Word) : Option T_word_Word :=
  let c1 := (AM.bits .xor .u64 (if IntKind.signed .u64 then -1 else IntKind.max .u64) a0_a.1)
  let c2 := (AM.bits .xor .u64 (if IntKind.signed .u64 then -1 else IntKind.max .u64) a0_a.2.1)
  some (c1, c2, ())
/-- math/bits.Sub64 -/
def math_bits_Sub64 (n : Nat) (x y b : Int) : Option (Int × Int) := AM.sub64 x y b
/-- shunter/word.Sub -/
def word_Sub (n : Nat) (a0_a : T_word_Word) (a1_b : T_word_Word) : Option (T_word_Word × Bool) :=
  (math_bits_Sub64 n a0_a.2.1 a1_b.2.1 (0 : Int)).bind fun y1 =>
  (math_bits_Sub64 n a0_a.1 a1_b.1 y1.2).bind fun y2 =>
  some ((y2.1, y1.1, ()), (decide (y2.2 > (0 : Int))))
/-- shunter/word.Ones -/
def word_Ones (n : Nat) (a0_n : Int) : Option T_word_Word :=
  if (decide (a0_n ≤ (0 : Int))) then
    some ((0 : Int), (0 : Int), ())
  else
  let c1 := (decide (a0_n ≥ (128 : Int)))
  if c1 then
    (word_Not n ((0 : Int), (0 : Int), ())).bind fun y2 =>
    some y2
  else
  (word_Shl n ((0 : Int), (1 : Int), ()) a0_n).bind fun y3 =>
  (word_Sub n y3 ((0 : Int), (1 : Int), ())).bind fun y4 =>
  some y4.1
/-- shunter/vec.Cut -/
def vec_Cut (n : Nat) (a0_w : Int) (a1_x : T_word_Word) : Option (T_api_Vec × Int) :=
  (vec_width n a0_w).bind fun y1 =>
  if (!y1) then
    some (((0 : Int), (0 : Int), (0 : Int), ()), (9 : Int))
  else
  (word_Ones n a0_w).bind fun y2 =>
  (word_And n a1_x y2).bind fun y3 =>
  (vec_row n a0_w y3).bind fun y4 =>
  some (y4, (0 : Int))
/-- shunter/vec.two -/
def vec_two.j1 (n : Nat) (a0_a : T_api_Vec) (a1_b : T_api_Vec) (a2_do : (Option (Nat → (T_word_Word × (T_word_Word × Unit)) → Option T_word_Word))) (j3 : Bool) : Option (T_api_Vec × Int) :=
  if j3 then
    some (((0 : Int), (0 : Int), (0 : Int), ()), (1 : Int))
  else
  if (a0_a.1 != a1_b.1) then
    some (((0 : Int), (0 : Int), (0 : Int), ()), (9 : Int))
  else
  (vec_Word n a0_a).bind fun y4 =>
  (vec_Word n a1_b).bind fun y5 =>
  (a2_do).bind fun g6 =>
  (g6 n (y4, y5, ())).bind fun y7 =>
  (vec_Cut n a0_a.1 y7).bind fun y8 =>
  some (y8.1, y8.2)
def vec_two (n : Nat) (a0_a : T_api_Vec) (a1_b : T_api_Vec) (a2_do : (Option (Nat → (T_word_Word × (T_word_Word × Unit)) → Option T_word_Word))) : Option (T_api_Vec × Int) :=
  (vec_May n a0_a).bind fun y1 =>
  if (!y1) then
    vec_two.j1 n a0_a a1_b a2_do true
  else
  (vec_May n a1_b).bind fun y2 =>
  vec_two.j1 n a0_a a1_b a2_do (!y2)
/-- shunter/vec.And -/
def vec_And (n : Nat) (a0_a : T_api_Vec) (a1_b : T_api_Vec) : Option (T_api_Vec × Int) :=
  (vec_two n a0_a a1_b (some (fun n x => word_And n x.1 x.2.1))).bind fun y1 =>
  some (y1.1, y1.2)
/-- (*shunter/image.checker).one -/
def image_checker_one.j1 (n : Nat) (a0_c : (Option T_image_checker)) (a1_x : T_api_Case) (j3 : Bool) : Option Int :=
  if j3 then
    some (9 : Int)
  else
  (vec_And n a1_x.1 a1_x.2.1).bind fun y4 =>
  let c5 := ((y4.1.1 == a1_x.1.1) && ((y4.1.2.1 == a1_x.1.2.1) && ((y4.1.2.2.1 == a1_x.1.2.2.1) && true)))
  (image_wants n c5 (14 : Int)).bind fun y6 =>
  (image_checker_next n a0_c a1_x.2.2.1).bind fun y7 =>
  (image_first n ([y6, y7] : List Int)).bind fun y8 =>
  some y8
def image_checker_one (n : Nat) (a0_c : (Option T_image_checker)) (a1_x : T_api_Case) (a2_w : Int) : Option Int :=
  (vec_May n a1_x.1).bind fun y1 =>
  if (!y1) then
    image_checker_one.j1 n a0_c a1_x true
  else
  (vec_May n a1_x.2.1).bind fun y2 =>
  if (!y2) then
    image_checker_one.j1 n a0_c a1_x true
  else
  if (a1_x.1.1 != a2_w) then
    image_checker_one.j1 n a0_c a1_x true
  else
  image_checker_one.j1 n a0_c a1_x (a1_x.2.1.1 != a2_w)
/-- (*shunter/image.checker).state -/
abbrev image_checker_state.l2.X := ((Int × (List T_api_Case) × Int × Int × Unit) × (((Option T_image_checker) × Unit) × T_api_State × Unit))
abbrev image_checker_state.l2.Y := ((Unit) × (((Option T_image_checker) × Unit) × T_api_State × Unit)) ⊕ ((Int × Unit) × (Unit))
def image_checker_state.l2.step (n : Nat) (L : image_checker_state.l2.X → Option image_checker_state.l2.Y) (x : image_checker_state.l2.X) : Option image_checker_state.l2.Y :=
  let c32 := (decide (x.1.2.2.2.1 < x.1.2.2.1))
  if c32 then
    (AM.at? x.1.2.1 x.1.2.2.2.1).bind fun e33 =>
    (image_checker_one n x.2.1.1 e33 x.1.1).bind fun y34 =>
    if (y34 != (0 : Int)) then
      some (Sum.inr ((y34, ()), (())))
    else
    let c35 := (IntKind.wrap .i64 (x.1.2.2.2.1 + (1 : Int)))
    L ((x.1.1, x.1.2.1, x.1.2.2.1, c35, ()), ((x.2.1.1, ()), x.2.2.1, ()))
  else
  some (Sum.inl ((()), ((x.2.1.1, ()), x.2.2.1, ())))
def image_checker_state.l2 (n m : Nat) (x : image_checker_state.l2.X) : Option image_checker_state.l2.Y := loop (image_checker_state.l2.step n) m x
abbrev image_checker_state.l0.X := (((List T_api_Sum) × Int × Int × Unit) × (((Option T_image_checker) × Unit) × T_api_State × Unit))
abbrev image_checker_state.l0.Y := ((Unit) × (((Option T_image_checker) × Unit) × T_api_State × Unit)) ⊕ ((Int × Unit) × (Unit))
def image_checker_state.l0.step (n : Nat) (L : image_checker_state.l0.X → Option image_checker_state.l0.Y) (x : image_checker_state.l0.X) : Option image_checker_state.l0.Y :=
  let c10 := (decide (x.1.2.2.1 < x.1.2.1))
  if c10 then
    (AM.at? x.1.1 x.1.2.2.1).bind fun e11 =>
    (image_checker_ext n x.2.1.1 e11).bind fun y12 =>
    if (y12 != (0 : Int)) then
      some (Sum.inr ((y12, ()), (())))
    else
    let c13 := (IntKind.wrap .i64 (x.1.2.2.1 + (1 : Int)))
    L ((x.1.1, x.1.2.1, c13, ()), ((x.2.1.1, ()), x.2.2.1, ()))
  else
  some (Sum.inl ((()), ((x.2.1.1, ()), x.2.2.1, ())))
def image_checker_state.l0 (n m : Nat) (x : image_checker_state.l0.X) : Option image_checker_state.l0.Y := loop (image_checker_state.l0.step n) m x
def image_checker_state.j1 (n : Nat) (a15 : ((Unit) × (((Option T_image_checker) × Unit) × T_api_State × Unit))) : Option Int :=
  (a15.2.1.1).bind fun p29 =>
  (image_Key n p29.1 a15.2.2.1.2.2.1).bind fun y31 =>
  (image_checker_state.l2 n n ((y31.1, a15.2.2.1.2.2.2.1, (a15.2.2.1.2.2.2.1.length : Int), (0 : Int), ()), ((a15.2.1.1, ()), a15.2.2.1, ()))).bind fun y36 =>
  sumE y36 (fun a37 =>
    (image_checker_next n a37.2.1.1 a37.2.2.1.2.2.2.2.1).bind fun y39 =>
    some y39)
    (fun b38 =>
    some b38.1.1)
def image_checker_state (n : Nat) (a0_c : (Option T_image_checker)) (a1_i : Int) : Option Int :=
  (a0_c).bind fun p1 =>
  (AM.at? p1.1.2.2.2.2.1 a1_i).bind fun e4 =>
  let c5 := (some (fun n x => image_checker_state_1 n x.1 (some a0_c)))
  (image_titled n a1_i c5).bind fun y6 =>
  let c7 := (decide ((e4.2.1.length : Int) ≤ (4 : Int)))
  (image_wants n c7 (2 : Int)).bind fun y8 =>
  (image_first n ([y6, y8] : List Int)).bind fun y9 =>
  if (y9 != (0 : Int)) then
    some y9
  else
  (image_checker_state.l0 n n ((e4.2.1, (e4.2.1.length : Int), (0 : Int), ()), ((a0_c, ()), e4, ()))).bind fun y14 =>
  sumE y14 (fun a15 =>
    (image_checker_key n a15.2.1.1 a15.2.2.1.2.2.1 true).bind fun y17 =>
    let c18 := (decide ((a15.2.2.1.2.2.2.1.length : Int) ≤ (8 : Int)))
    (image_wants n c18 (2 : Int)).bind fun y19 =>
    let c20 := ((a15.2.2.1.2.2.2.1.length : Int) == (0 : Int))
    if c20 then
      (image_wants n true (4 : Int)).bind fun y21 =>
      (image_first n ([y17, y19, y21] : List Int)).bind fun y22 =>
      if (y22 != (0 : Int)) then
        some y22
      else
      image_checker_state.j1 n a15
    else
    let c23 := (decide ((a15.2.2.1.2.2.1.length : Int) > (0 : Int)))
    (image_wants n c23 (4 : Int)).bind fun y24 =>
    (image_first n ([y17, y19, y24] : List Int)).bind fun y25 =>
    if (y25 != (0 : Int)) then
      some y25
    else
    image_checker_state.j1 n a15)
    (fun b16 =>
    some b16.1.1)
/-- (*shunter/image.checker).action$1 -/
def image_checker_action_1 (n : Nat) (a0_k : Int) (a1 : (Option (Option T_image_checker))) : Option ByteArray :=
  (a1).bind fun p1 =>
  (p1).bind fun p2 =>
  (AM.at? p2.1.2.2.2.2.2.1 a0_k).bind fun e5 =>
  some e5.1
/-- shunter/code.known -/
def code_known (n : Nat) (a0_o : Int) : Option Bool :=
  if (decide (a0_o ≥ (0 : Int))) then
    some (decide (a0_o < (35 : Int)))
  else
  some false
/-- shunter/code.both -/
def code_both (n : Nat) (a0_to : Int) (a1_least : Int) (a2_most : Int) (a3_takes : Int) (a4_puts : Int) : Option T_code_shape :=
  some (true, true, (0 : Int), a0_to, a1_least, a2_most, a3_takes, a4_puts, ())
/-- shunter/code.alone -/
def code_alone (n : Nat) (a0_from : Int) (a1_to : Int) (a2_takes : Int) (a3_puts : Int) : Option T_code_shape :=
  some (true, false, a0_from, a1_to, (0 : Int), (0 : Int), a2_takes, a3_puts, ())
/-- shunter/code.shapeOf -/
def code_shapeOf.c47 (n : Nat) (z47 : ((Unit) × (T_code_shape × Unit))) : Option T_code_shape :=
  some (false, false, (0 : Int), (0 : Int), (0 : Int), (0 : Int), (2 : Int), (1 : Int), ())
def code_shapeOf (n : Nat) (a0_o : Int) : Option T_code_shape :=
  if (a0_o == (0 : Int)) then
    some (false, false, (0 : Int), (0 : Int), (0 : Int), (0 : Int), (0 : Int), (1 : Int), ())
  else
  if (a0_o == (1 : Int)) then
    (code_both n (31 : Int) (0 : Int) (15 : Int) (0 : Int) (1 : Int)).bind fun y1 =>
    some y1
  else
  if (a0_o == (22 : Int)) then
    (code_both n (31 : Int) (0 : Int) (15 : Int) (1 : Int) (0 : Int)).bind fun y2 =>
    some y2
  else
  if (a0_o == (2 : Int)) then
    (code_alone n (0 : Int) (23 : Int) (0 : Int) (1 : Int)).bind fun y3 =>
    some y3
  else
  if (a0_o == (23 : Int)) then
    (code_alone n (0 : Int) (23 : Int) (1 : Int) (0 : Int)).bind fun y4 =>
    some y4
  else
  if (a0_o == (3 : Int)) then
    (code_alone n (0 : Int) (7 : Int) (0 : Int) (1 : Int)).bind fun y5 =>
    some y5
  else
  if (a0_o == (4 : Int)) then
    (code_alone n (0 : Int) (31 : Int) (0 : Int) (1 : Int)).bind fun y6 =>
    some y6
  else
  if (a0_o == (25 : Int)) then
    (code_alone n (0 : Int) (31 : Int) (0 : Int) (0 : Int)).bind fun y7 =>
    some y7
  else
  if (a0_o == (26 : Int)) then
    (code_alone n (0 : Int) (31 : Int) (0 : Int) (0 : Int)).bind fun y8 =>
    some y8
  else
  if (a0_o == (5 : Int)) then
    (code_alone n (0 : Int) (7 : Int) (1 : Int) (1 : Int)).bind fun y9 =>
    some y9
  else
  if (a0_o == (30 : Int)) then
    (code_alone n (0 : Int) (7 : Int) (1 : Int) (1 : Int)).bind fun y10 =>
    some y10
  else
  if (a0_o == (24 : Int)) then
    (code_alone n (0 : Int) (7 : Int) (2 : Int) (0 : Int)).bind fun y11 =>
    some y11
  else
  if (a0_o == (29 : Int)) then
    (code_alone n (0 : Int) (7 : Int) (1 : Int) (0 : Int)).bind fun y12 =>
    some y12
  else
  if (a0_o == (8 : Int)) then
    (code_alone n (0 : Int) (128 : Int) (1 : Int) (1 : Int)).bind fun y13 =>
    some y13
  else
  if (a0_o == (9 : Int)) then
    (code_alone n (0 : Int) (128 : Int) (1 : Int) (1 : Int)).bind fun y14 =>
    some y14
  else
  if (a0_o == (11 : Int)) then
    (code_alone n (1 : Int) (128 : Int) (1 : Int) (1 : Int)).bind fun y15 =>
    some y15
  else
  if (a0_o == (10 : Int)) then
    (code_both n (127 : Int) (0 : Int) (127 : Int) (1 : Int) (1 : Int)).bind fun y16 =>
    some y16
  else
  if (a0_o == (27 : Int)) then
    (code_both n (15 : Int) (1 : Int) (4 : Int) (0 : Int) (0 : Int)).bind fun y17 =>
    some y17
  else
  if (a0_o == (28 : Int)) then
    (code_both n (15 : Int) (1 : Int) (4 : Int) (0 : Int) (0 : Int)).bind fun y18 =>
    some y18
  else
  if (a0_o == (31 : Int)) then
    (code_alone n (0 : Int) (64 : Int) (0 : Int) (0 : Int)).bind fun y19 =>
    some y19
  else
  if (a0_o == (32 : Int)) then
    (code_alone n (0 : Int) (64 : Int) (1 : Int) (0 : Int)).bind fun y20 =>
    some y20
  else
  if (a0_o == (33 : Int)) then
    (code_both n (31 : Int) (0 : Int) (64 : Int) (0 : Int) (0 : Int)).bind fun y21 =>
    some y21
  else
  if (a0_o == (6 : Int)) then
    some (false, false, (0 : Int), (0 : Int), (0 : Int), (0 : Int), (1 : Int), (1 : Int), ())
  else
  if (a0_o == (7 : Int)) then
    some (false, false, (0 : Int), (0 : Int), (0 : Int), (0 : Int), (1 : Int), (1 : Int), ())
  else
  if (a0_o == (34 : Int)) then
    some (false, false, (0 : Int), (0 : Int), (0 : Int), (0 : Int), (0 : Int), (0 : Int), ())
  else
  code_shapeOf.c47 n ((()), ((false, false, (0 : Int), (0 : Int), (0 : Int), (0 : Int), (0 : Int), (0 : Int), ()), ()))
/-- shunter/code.within -/
def code_within (n : Nat) (a0_n : Int) (a1_lo : Int) (a2_hi : Int) : Option Bool :=
  if (decide (a0_n ≥ a1_lo)) then
    some (decide (a0_n ≤ a2_hi))
  else
  some false
/-- shunter/code.May -/
def code_May.j1 (n : Nat) (j10 : Bool) : Option Int :=
  if j10 then
    some (1 : Int)
  else
  some (0 : Int)
def code_May.j2 (n : Nat) (a0_x : T_api_Ins) (j6 : Bool) : Option Int :=
  if j6 then
    some (7 : Int)
  else
  if (a0_x.1 == (0 : Int)) then
    (vec_May n a0_x.2.2.2.1).bind fun y7 =>
    if (!y7) then
      code_May.j1 n true
    else
    if (a0_x.1 != (0 : Int)) then
      let c8 := (!((a0_x.2.2.2.1.1 == (((0 : Int), (0 : Int), (0 : Int), ()).1)) && ((a0_x.2.2.2.1.2.1 == (((0 : Int), (0 : Int), (0 : Int), ()).2.1)) && ((a0_x.2.2.2.1.2.2.1 == (((0 : Int), (0 : Int), (0 : Int), ()).2.2.1)) && true))))
      code_May.j1 n c8
    else
    code_May.j1 n false
  else
  if (a0_x.1 != (0 : Int)) then
    let c9 := (!((a0_x.2.2.2.1.1 == (((0 : Int), (0 : Int), (0 : Int), ()).1)) && ((a0_x.2.2.2.1.2.1 == (((0 : Int), (0 : Int), (0 : Int), ()).2.1)) && ((a0_x.2.2.2.1.2.2.1 == (((0 : Int), (0 : Int), (0 : Int), ()).2.2.1)) && true))))
    code_May.j1 n c9
  else
  code_May.j1 n false
def code_May (n : Nat) (a0_x : T_api_Ins) : Option Int :=
  (code_known n a0_x.1).bind fun y1 =>
  if (!y1) then
    some (10 : Int)
  else
  (code_shapeOf n a0_x.1).bind fun y2 =>
  (code_within n a0_x.2.1 y2.2.2.1 y2.2.2.2.1).bind fun y3 =>
  if (!y3) then
    code_May.j2 n a0_x true
  else
  (code_within n a0_x.2.2.1 y2.2.2.2.2.1 y2.2.2.2.2.2.1).bind fun y4 =>
  if (!y4) then
    code_May.j2 n a0_x true
  else
  if (a0_x.1 == (10 : Int)) then
    let c5 := (decide (a0_x.2.2.1 > a0_x.2.1))
    code_May.j2 n a0_x c5
  else
  code_May.j2 n a0_x false
/-- shunter/code.Make -/
def code_Make.c40 (n : Nat) (z40 : ((Unit) × (T_api_Ins × Unit))) : Option (T_code_Step × Int) :=
  let c29 := (Sum.inr (Sum.inl (z40.2.1.1, ())))
  some (c29, (0 : Int))
def code_Make (n : Nat) (a0_x : T_api_Ins) : Option (T_code_Step × Int) :=
  (code_May n a0_x).bind fun y1 =>
  if (y1 != (0 : Int)) then
    some ((Sum.inr (Sum.inr (Sum.inr (Sum.inr (Sum.inr (Sum.inr (Sum.inr (Sum.inr (Sum.inr (Sum.inr (Sum.inr ()))))))))))), y1)
  else
  if (a0_x.1 == (0 : Int)) then
    some ((Sum.inl (a0_x.2.2.2.1, ())), (0 : Int))
  else
  if (a0_x.1 == (1 : Int)) then
    let c2 := (Sum.inr (Sum.inr (Sum.inr (Sum.inl (a0_x.1, a0_x.2.1, a0_x.2.2.1, ())))))
    some (c2, (0 : Int))
  else
  if (a0_x.1 == (22 : Int)) then
    let c3 := (Sum.inr (Sum.inr (Sum.inr (Sum.inl (a0_x.1, a0_x.2.1, a0_x.2.2.1, ())))))
    some (c3, (0 : Int))
  else
  if (a0_x.1 == (2 : Int)) then
    let c5 := (Sum.inr (Sum.inr (Sum.inr (Sum.inr (Sum.inr (Sum.inr (Sum.inr (Sum.inl (a0_x.1, a0_x.2.1, ())))))))))
    some (c5, (0 : Int))
  else
  if (a0_x.1 == (23 : Int)) then
    let c6 := (Sum.inr (Sum.inr (Sum.inr (Sum.inr (Sum.inr (Sum.inr (Sum.inr (Sum.inl (a0_x.1, a0_x.2.1, ())))))))))
    some (c6, (0 : Int))
  else
  if (a0_x.1 == (3 : Int)) then
    let c7 := (Sum.inr (Sum.inr (Sum.inr (Sum.inr (Sum.inr (Sum.inr (Sum.inr (Sum.inl (a0_x.1, a0_x.2.1, ())))))))))
    some (c7, (0 : Int))
  else
  if (a0_x.1 == (5 : Int)) then
    let c8 := (Sum.inr (Sum.inr (Sum.inr (Sum.inr (Sum.inr (Sum.inr (Sum.inr (Sum.inl (a0_x.1, a0_x.2.1, ())))))))))
    some (c8, (0 : Int))
  else
  if (a0_x.1 == (24 : Int)) then
    let c9 := (Sum.inr (Sum.inr (Sum.inr (Sum.inr (Sum.inr (Sum.inr (Sum.inr (Sum.inl (a0_x.1, a0_x.2.1, ())))))))))
    some (c9, (0 : Int))
  else
  if (a0_x.1 == (29 : Int)) then
    let c10 := (Sum.inr (Sum.inr (Sum.inr (Sum.inr (Sum.inr (Sum.inr (Sum.inr (Sum.inl (a0_x.1, a0_x.2.1, ())))))))))
    some (c10, (0 : Int))
  else
  if (a0_x.1 == (30 : Int)) then
    let c11 := (Sum.inr (Sum.inr (Sum.inr (Sum.inr (Sum.inr (Sum.inr (Sum.inr (Sum.inl (a0_x.1, a0_x.2.1, ())))))))))
    some (c11, (0 : Int))
  else
  if (a0_x.1 == (4 : Int)) then
    let c13 := (Sum.inr (Sum.inr (Sum.inr (Sum.inr (Sum.inr (Sum.inr (Sum.inr (Sum.inr (Sum.inl (a0_x.1, a0_x.2.1, ()))))))))))
    some (c13, (0 : Int))
  else
  if (a0_x.1 == (25 : Int)) then
    let c14 := (Sum.inr (Sum.inr (Sum.inr (Sum.inr (Sum.inr (Sum.inr (Sum.inr (Sum.inr (Sum.inl (a0_x.1, a0_x.2.1, ()))))))))))
    some (c14, (0 : Int))
  else
  if (a0_x.1 == (26 : Int)) then
    let c15 := (Sum.inr (Sum.inr (Sum.inr (Sum.inr (Sum.inr (Sum.inr (Sum.inr (Sum.inr (Sum.inl (a0_x.1, a0_x.2.1, ()))))))))))
    some (c15, (0 : Int))
  else
  if (a0_x.1 == (6 : Int)) then
    let c17 := (Sum.inr (Sum.inr (Sum.inr (Sum.inr (Sum.inr (Sum.inr (Sum.inr (Sum.inr (Sum.inr (Sum.inl (a0_x.1, a0_x.2.1, ())))))))))))
    some (c17, (0 : Int))
  else
  if (a0_x.1 == (7 : Int)) then
    let c18 := (Sum.inr (Sum.inr (Sum.inr (Sum.inr (Sum.inr (Sum.inr (Sum.inr (Sum.inr (Sum.inr (Sum.inl (a0_x.1, a0_x.2.1, ())))))))))))
    some (c18, (0 : Int))
  else
  if (a0_x.1 == (8 : Int)) then
    let c19 := (Sum.inr (Sum.inr (Sum.inr (Sum.inr (Sum.inr (Sum.inr (Sum.inr (Sum.inr (Sum.inr (Sum.inl (a0_x.1, a0_x.2.1, ())))))))))))
    some (c19, (0 : Int))
  else
  if (a0_x.1 == (9 : Int)) then
    let c20 := (Sum.inr (Sum.inr (Sum.inr (Sum.inr (Sum.inr (Sum.inr (Sum.inr (Sum.inr (Sum.inr (Sum.inl (a0_x.1, a0_x.2.1, ())))))))))))
    some (c20, (0 : Int))
  else
  if (a0_x.1 == (11 : Int)) then
    let c21 := (Sum.inr (Sum.inr (Sum.inr (Sum.inr (Sum.inr (Sum.inr (Sum.inr (Sum.inr (Sum.inr (Sum.inl (a0_x.1, a0_x.2.1, ())))))))))))
    some (c21, (0 : Int))
  else
  if (a0_x.1 == (10 : Int)) then
    let c22 := (Sum.inr (Sum.inr (Sum.inr (Sum.inr (Sum.inl (a0_x.2.1, a0_x.2.2.1, ()))))))
    some (c22, (0 : Int))
  else
  if (a0_x.1 == (27 : Int)) then
    let c23 := (Sum.inr (Sum.inr (Sum.inr (Sum.inr (Sum.inr (Sum.inl (a0_x.1, a0_x.2.1, a0_x.2.2.1, ())))))))
    some (c23, (0 : Int))
  else
  if (a0_x.1 == (28 : Int)) then
    let c24 := (Sum.inr (Sum.inr (Sum.inr (Sum.inr (Sum.inr (Sum.inl (a0_x.1, a0_x.2.1, a0_x.2.2.1, ())))))))
    some (c24, (0 : Int))
  else
  if (a0_x.1 == (31 : Int)) then
    let c25 := (Sum.inr (Sum.inr (Sum.inr (Sum.inr (Sum.inr (Sum.inr (Sum.inr (Sum.inr (Sum.inr (Sum.inr (Sum.inl (a0_x.1, a0_x.2.1, ()))))))))))))
    some (c25, (0 : Int))
  else
  if (a0_x.1 == (32 : Int)) then
    let c26 := (Sum.inr (Sum.inr (Sum.inr (Sum.inr (Sum.inr (Sum.inr (Sum.inr (Sum.inr (Sum.inr (Sum.inr (Sum.inl (a0_x.1, a0_x.2.1, ()))))))))))))
    some (c26, (0 : Int))
  else
  if (a0_x.1 == (33 : Int)) then
    let c27 := (Sum.inr (Sum.inr (Sum.inr (Sum.inr (Sum.inr (Sum.inr (Sum.inl (a0_x.2.1, a0_x.2.2.1, ()))))))))
    some (c27, (0 : Int))
  else
  if (a0_x.1 == (34 : Int)) then
    let c28 := (Sum.inr (Sum.inr (Sum.inl ())))
    some (c28, (0 : Int))
  else
  code_Make.c40 n ((()), (a0_x, ()))
/-- shunter/code.All -/
abbrev code_All.l0.X := (((List T_api_Ins) × (List T_api_Ins) × Int × Int × Unit) × ((List T_code_Step) × Unit))
abbrev code_All.l0.Y := (((List T_api_Ins) × Unit) × ((List T_code_Step) × Unit)) ⊕ (((List T_code_Step) × Int × Int × Unit) × (Unit))
def code_All.l0.step (n : Nat) (L : code_All.l0.X → Option code_All.l0.Y) (x : code_All.l0.X) : Option code_All.l0.Y :=
  let c3 := (decide (x.1.2.2.2.1 < x.1.2.2.1))
  if c3 then
    (AM.at? x.1.2.1 x.1.2.2.2.1).bind fun e4 =>
    (code_Make n e4).bind fun y5 =>
    if (y5.2 != (0 : Int)) then
      some (Sum.inr ((([] : List T_code_Step), x.1.2.2.2.1, y5.2, ()), (())))
    else
    if decide (x.2.1.length + ([y5.1] : List T_code_Step).length ≤ 8796093022208) then
    let c6 := (x.2.1 ++ ([y5.1] : List T_code_Step))
    let c7 := (IntKind.wrap .i64 (x.1.2.2.2.1 + (1 : Int)))
    L ((x.1.1, x.1.2.1, x.1.2.2.1, c7, ()), (c6, ()))
    else none
  else
  some (Sum.inl ((x.1.1, ()), (x.2.1, ())))
def code_All.l0 (n m : Nat) (x : code_All.l0.X) : Option code_All.l0.Y := loop (code_All.l0.step n) m x
def code_All (n : Nat) (a0_l : (List T_api_Ins)) : Option ((List T_code_Step) × (Int × Int)) :=
  let c1 := (if (64 : Int) < (a0_l.length : Int) then (64 : Int) else (a0_l.length : Int))
  if (decide (0 ≤ c1) && decide (c1 ≤ (a0_l.length : Int)) && decide (0 ≤ (0 : Int)) && decide ((0 : Int) ≤ c1)) then
  let c2 := ((a0_l.take c1.toNat).drop (0 : Int).toNat)
  (code_All.l0 n n ((a0_l, c2, (c2.length : Int), (0 : Int), ()), (([] : List T_code_Step), ()))).bind fun y8 =>
  sumE y8 (fun a9 =>
    let c11 := (decide ((a9.1.1.length : Int) > (64 : Int)))
    if c11 then
      some (([] : List T_code_Step), (64 : Int), (2 : Int))
    else
    some (a9.2.1, (a9.2.1.length : Int), (0 : Int)))
    (fun b10 =>
    some (b10.1.1, b10.1.2.1, b10.1.2.2.1))
  else none
/-- (*shunter/image.checker).cell -/
def image_checker_cell (n : Nat) (a0_c : (Option T_image_checker)) (a1_t : T_api_Sum) (a2_params : Int) : Option Bool :=
  if (a1_t.1 == (2 : Int)) then
    (a0_c).bind fun p1 =>
    (image_Meta n p1.1 a1_t.2.1).bind fun y3 =>
    some y3.2
  else
  if (a1_t.1 == (23 : Int)) then
    (a0_c).bind fun p4 =>
    (image_Meta n p4.1 a1_t.2.1).bind fun y6 =>
    some y6.2
  else
  if (a1_t.1 == (3 : Int)) then
    let c7 := (decide (a1_t.2.1 < a2_params))
    some c7
  else
  if (a1_t.1 == (5 : Int)) then
    (a0_c).bind fun p8 =>
    let c11 := (decide (a1_t.2.1 < (p8.1.2.2.2.2.2.2.2.2.2.2.2.2.1.length : Int)))
    some c11
  else
  if (a1_t.1 == (24 : Int)) then
    (a0_c).bind fun p12 =>
    let c15 := (decide (a1_t.2.1 < (p12.1.2.2.2.2.2.2.2.2.2.2.2.2.1.length : Int)))
    some c15
  else
  if (a1_t.1 == (29 : Int)) then
    (a0_c).bind fun p16 =>
    let c19 := (decide (a1_t.2.1 < (p16.1.2.2.2.2.2.2.2.2.2.2.2.2.2.1.length : Int)))
    some c19
  else
  (a0_c).bind fun p20 =>
  let c23 := (decide (a1_t.2.1 < (p20.1.2.2.2.2.2.2.2.2.2.2.2.2.2.2.1.length : Int)))
  some c23
/-- (*shunter/image.checker).refers -/
def image_checker_refers (n : Nat) (a0_c : (Option T_image_checker)) (a1_s : T_code_Step) (a2_params : (List Int)) : Option Bool :=
  let c8 := (match a1_s with | .inl _ => ((0 : Int), (0 : Int), (0 : Int), ()) | .inr r1 => (match r1 with | .inl _ => ((0 : Int), (0 : Int), (0 : Int), ()) | .inr r2 => (match r2 with | .inl _ => ((0 : Int), (0 : Int), (0 : Int), ()) | .inr r3 => (match r3 with | .inl r4 => r4 | .inr _ => ((0 : Int), (0 : Int), (0 : Int), ())))))
  let c9 := (match a1_s with | .inl _ => false | .inr r5 => (match r5 with | .inl _ => false | .inr r6 => (match r6 with | .inl _ => false | .inr r7 => (match r7 with | .inl _ => true | .inr _ => false))))
  if c9 then
    (a0_c).bind fun p10 =>
    (image_Field n p10.1 c8.2.1 c8.2.2.1).bind fun y12 =>
    some y12.2
  else
  let c30 := (match a1_s with | .inl _ => ((0 : Int), (0 : Int), ()) | .inr r13 => (match r13 with | .inl _ => ((0 : Int), (0 : Int), ()) | .inr r14 => (match r14 with | .inl _ => ((0 : Int), (0 : Int), ()) | .inr r15 => (match r15 with | .inl _ => ((0 : Int), (0 : Int), ()) | .inr r16 => (match r16 with | .inl _ => ((0 : Int), (0 : Int), ()) | .inr r17 => (match r17 with | .inl _ => ((0 : Int), (0 : Int), ()) | .inr r18 => (match r18 with | .inl _ => ((0 : Int), (0 : Int), ()) | .inr r19 => (match r19 with | .inl _ => ((0 : Int), (0 : Int), ()) | .inr r20 => (match r20 with | .inl r21 => r21 | .inr _ => ((0 : Int), (0 : Int), ()))))))))))
  let c31 := (match a1_s with | .inl _ => false | .inr r22 => (match r22 with | .inl _ => false | .inr r23 => (match r23 with | .inl _ => false | .inr r24 => (match r24 with | .inl _ => false | .inr r25 => (match r25 with | .inl _ => false | .inr r26 => (match r26 with | .inl _ => false | .inr r27 => (match r27 with | .inl _ => false | .inr r28 => (match r28 with | .inl _ => false | .inr r29 => (match r29 with | .inl _ => true | .inr _ => false)))))))))
  if c31 then
    (a0_c).bind fun p32 =>
    (image_Slot n p32.1 c30.2.1).bind fun y34 =>
    some y34.2
  else
  let c48 := (match a1_s with | .inl _ => ((0 : Int), (0 : Int), ()) | .inr r35 => (match r35 with | .inl _ => ((0 : Int), (0 : Int), ()) | .inr r36 => (match r36 with | .inl _ => ((0 : Int), (0 : Int), ()) | .inr r37 => (match r37 with | .inl _ => ((0 : Int), (0 : Int), ()) | .inr r38 => (match r38 with | .inl _ => ((0 : Int), (0 : Int), ()) | .inr r39 => (match r39 with | .inl _ => ((0 : Int), (0 : Int), ()) | .inr r40 => (match r40 with | .inl r41 => r41 | .inr _ => ((0 : Int), (0 : Int), ()))))))))
  let c49 := (match a1_s with | .inl _ => false | .inr r42 => (match r42 with | .inl _ => false | .inr r43 => (match r43 with | .inl _ => false | .inr r44 => (match r44 with | .inl _ => false | .inr r45 => (match r45 with | .inl _ => false | .inr r46 => (match r46 with | .inl _ => false | .inr r47 => (match r47 with | .inl _ => true | .inr _ => false)))))))
  if c49 then
    (a0_c).bind fun p50 =>
    (image_Slot n p50.1 c48.1).bind fun y52 =>
    some y52.2
  else
  let c64 := (match a1_s with | .inl _ => ((0 : Int), (0 : Int), (0 : Int), ()) | .inr r53 => (match r53 with | .inl _ => ((0 : Int), (0 : Int), (0 : Int), ()) | .inr r54 => (match r54 with | .inl _ => ((0 : Int), (0 : Int), (0 : Int), ()) | .inr r55 => (match r55 with | .inl _ => ((0 : Int), (0 : Int), (0 : Int), ()) | .inr r56 => (match r56 with | .inl _ => ((0 : Int), (0 : Int), (0 : Int), ()) | .inr r57 => (match r57 with | .inl r58 => r58 | .inr _ => ((0 : Int), (0 : Int), (0 : Int), ())))))))
  let c65 := (match a1_s with | .inl _ => false | .inr r59 => (match r59 with | .inl _ => false | .inr r60 => (match r60 with | .inl _ => false | .inr r61 => (match r61 with | .inl _ => false | .inr r62 => (match r62 with | .inl _ => false | .inr r63 => (match r63 with | .inl _ => true | .inr _ => false))))))
  if c65 then
    (a0_c).bind fun p66 =>
    (image_Stacked n p66.1 c64.2.1).bind fun y68 =>
    some y68.2.2
  else
  let c84 := (match a1_s with | .inl _ => ((0 : Int), (0 : Int), ()) | .inr r69 => (match r69 with | .inl _ => ((0 : Int), (0 : Int), ()) | .inr r70 => (match r70 with | .inl _ => ((0 : Int), (0 : Int), ()) | .inr r71 => (match r71 with | .inl _ => ((0 : Int), (0 : Int), ()) | .inr r72 => (match r72 with | .inl _ => ((0 : Int), (0 : Int), ()) | .inr r73 => (match r73 with | .inl _ => ((0 : Int), (0 : Int), ()) | .inr r74 => (match r74 with | .inl _ => ((0 : Int), (0 : Int), ()) | .inr r75 => (match r75 with | .inl r76 => r76 | .inr _ => ((0 : Int), (0 : Int), ())))))))))
  let c85 := (match a1_s with | .inl _ => false | .inr r77 => (match r77 with | .inl _ => false | .inr r78 => (match r78 with | .inl _ => false | .inr r79 => (match r79 with | .inl _ => false | .inr r80 => (match r80 with | .inl _ => false | .inr r81 => (match r81 with | .inl _ => false | .inr r82 => (match r82 with | .inl _ => false | .inr r83 => (match r83 with | .inl _ => true | .inr _ => false))))))))
  if c85 then
    (image_checker_cell n a0_c c84 (a2_params.length : Int)).bind fun y86 =>
    some y86
  else
  some true
/-- shunter/code.Target -/
def code_Target (n : Nat) (a0_s : T_code_Step) : Option (Int × Bool) :=
  let c22 := (match a0_s with | .inl _ => ((0 : Int), (0 : Int), ()) | .inr r1 => (match r1 with | .inl _ => ((0 : Int), (0 : Int), ()) | .inr r2 => (match r2 with | .inl _ => ((0 : Int), (0 : Int), ()) | .inr r3 => (match r3 with | .inl _ => ((0 : Int), (0 : Int), ()) | .inr r4 => (match r4 with | .inl _ => ((0 : Int), (0 : Int), ()) | .inr r5 => (match r5 with | .inl _ => ((0 : Int), (0 : Int), ()) | .inr r6 => (match r6 with | .inl _ => ((0 : Int), (0 : Int), ()) | .inr r7 => (match r7 with | .inl _ => ((0 : Int), (0 : Int), ()) | .inr r8 => (match r8 with | .inl _ => ((0 : Int), (0 : Int), ()) | .inr r9 => (match r9 with | .inl _ => ((0 : Int), (0 : Int), ()) | .inr r10 => (match r10 with | .inl r11 => r11 | .inr _ => ((0 : Int), (0 : Int), ()))))))))))))
  let c23 := (match a0_s with | .inl _ => false | .inr r12 => (match r12 with | .inl _ => false | .inr r13 => (match r13 with | .inl _ => false | .inr r14 => (match r14 with | .inl _ => false | .inr r15 => (match r15 with | .inl _ => false | .inr r16 => (match r16 with | .inl _ => false | .inr r17 => (match r17 with | .inl _ => false | .inr r18 => (match r18 with | .inl _ => false | .inr r19 => (match r19 with | .inl _ => false | .inr r20 => (match r20 with | .inl _ => false | .inr r21 => (match r21 with | .inl _ => true | .inr _ => false)))))))))))
  if c23 then
    some (c22.2.1, true)
  else
  let c37 := (match a0_s with | .inl _ => ((0 : Int), (0 : Int), ()) | .inr r24 => (match r24 with | .inl _ => ((0 : Int), (0 : Int), ()) | .inr r25 => (match r25 with | .inl _ => ((0 : Int), (0 : Int), ()) | .inr r26 => (match r26 with | .inl _ => ((0 : Int), (0 : Int), ()) | .inr r27 => (match r27 with | .inl _ => ((0 : Int), (0 : Int), ()) | .inr r28 => (match r28 with | .inl _ => ((0 : Int), (0 : Int), ()) | .inr r29 => (match r29 with | .inl r30 => r30 | .inr _ => ((0 : Int), (0 : Int), ()))))))))
  let c38 := (match a0_s with | .inl _ => false | .inr r31 => (match r31 with | .inl _ => false | .inr r32 => (match r32 with | .inl _ => false | .inr r33 => (match r33 with | .inl _ => false | .inr r34 => (match r34 with | .inl _ => false | .inr r35 => (match r35 with | .inl _ => false | .inr r36 => (match r36 with | .inl _ => true | .inr _ => false)))))))
  if c38 then
    some (c37.2.1, true)
  else
  some ((0 : Int), false)
/-- (*shunter/image.checker).code -/
abbrev image_checker_code.l0.X := (((Option T_image_checker) × (List T_api_Ins) × (List Int) × (List T_code_Step) × Int × Int × Unit) × (Unit))
abbrev image_checker_code.l0.Y := ((Unit) × (Unit)) ⊕ ((Int × Unit) × (Unit))
def image_checker_code.l0.step (n : Nat) (L : image_checker_code.l0.X → Option image_checker_code.l0.Y) (x : image_checker_code.l0.X) : Option image_checker_code.l0.Y :=
  let c2 := (decide (x.1.2.2.2.2.2.1 < x.1.2.2.2.2.1))
  if c2 then
    (AM.at? x.1.2.2.2.1 x.1.2.2.2.2.2.1).bind fun e3 =>
    (image_checker_refers n x.1.1 e3 x.1.2.2.1).bind fun y4 =>
    if (!y4) then
      some (Sum.inr (((5 : Int), ()), (())))
    else
    (code_Target n e3).bind fun y5 =>
    if y5.2 then
      let c6 := (IntKind.wrap .i64 (x.1.2.2.2.2.2.1 + (1 : Int)))
      (image_within n y5.1 c6 (x.1.2.1.length : Int)).bind fun y7 =>
      if (!y7) then
        some (Sum.inr (((12 : Int), ()), (())))
      else
      let c10 := (IntKind.wrap .i64 (x.1.2.2.2.2.2.1 + (1 : Int)))
      L ((x.1.1, x.1.2.1, x.1.2.2.1, x.1.2.2.2.1, x.1.2.2.2.2.1, c10, ()), (()))
    else
    let c11 := (IntKind.wrap .i64 (x.1.2.2.2.2.2.1 + (1 : Int)))
    L ((x.1.1, x.1.2.1, x.1.2.2.1, x.1.2.2.2.1, x.1.2.2.2.2.1, c11, ()), (()))
  else
  some (Sum.inl ((()), (())))
def image_checker_code.l0 (n m : Nat) (x : image_checker_code.l0.X) : Option image_checker_code.l0.Y := loop (image_checker_code.l0.step n) m x
def image_checker_code (n : Nat) (a0_c : (Option T_image_checker)) (a1_l : (List T_api_Ins)) (a2_params : (List Int)) : Option Int :=
  (code_All n a1_l).bind fun y1 =>
  if (y1.2.2 != (0 : Int)) then
    some y1.2.2
  else
  (image_checker_code.l0 n n ((a0_c, a1_l, a2_params, y1.1, (y1.1.length : Int), (0 : Int), ()), (()))).bind fun y12 =>
  sumE y12 (fun a13 =>
    some (0 : Int))
    (fun b14 =>
    some b14.1.1)
/-- (*shunter/image.checker).action -/
abbrev image_checker_action.l0.X := (((List Int) × Int × Int × Unit) × (((Option T_image_checker) × Unit) × T_api_Action × Unit))
abbrev image_checker_action.l0.Y := ((Unit) × (((Option T_image_checker) × Unit) × T_api_Action × Unit)) ⊕ ((Int × Unit) × (Unit))
def image_checker_action.l0.step (n : Nat) (L : image_checker_action.l0.X → Option image_checker_action.l0.Y) (x : image_checker_action.l0.X) : Option image_checker_action.l0.Y :=
  let c10 := (decide (x.1.2.2.1 < x.1.2.1))
  if c10 then
    (AM.at? x.1.1 x.1.2.2.1).bind fun e11 =>
    (image_within n e11 (1 : Int) (128 : Int)).bind fun y12 =>
    if (!y12) then
      some (Sum.inr (((9 : Int), ()), (())))
    else
    let c13 := (IntKind.wrap .i64 (x.1.2.2.1 + (1 : Int)))
    L ((x.1.1, x.1.2.1, c13, ()), ((x.2.1.1, ()), x.2.2.1, ()))
  else
  some (Sum.inl ((()), ((x.2.1.1, ()), x.2.2.1, ())))
def image_checker_action.l0 (n m : Nat) (x : image_checker_action.l0.X) : Option image_checker_action.l0.Y := loop (image_checker_action.l0.step n) m x
def image_checker_action (n : Nat) (a0_c : (Option T_image_checker)) (a1_i : Int) : Option Int :=
  (a0_c).bind fun p1 =>
  (AM.at? p1.1.2.2.2.2.2.1 a1_i).bind fun e4 =>
  let c5 := (some (fun n x => image_checker_action_1 n x.1 (some a0_c)))
  (image_titled n a1_i c5).bind fun y6 =>
  let c7 := (decide ((e4.2.1.length : Int) ≤ (8 : Int)))
  (image_wants n c7 (2 : Int)).bind fun y8 =>
  (image_first n ([y6, y8] : List Int)).bind fun y9 =>
  if (y9 != (0 : Int)) then
    some y9
  else
  (image_checker_action.l0 n n ((e4.2.1, (e4.2.1.length : Int), (0 : Int), ()), ((a0_c, ()), e4, ()))).bind fun y14 =>
  sumE y14 (fun a15 =>
    (image_checker_code n a15.2.1.1 a15.2.2.1.2.2.1 a15.2.2.1.2.1).bind fun y17 =>
    some y17)
    (fun b16 =>
    some b16.1.1)
/-- (*shunter/image.checker).table$1 -/
def image_checker_table_1 (n : Nat) (a0_k : Int) (a1 : (Option (Option T_image_checker))) : Option ByteArray :=
  (a1).bind fun p1 =>
  (p1).bind fun p2 =>
  (AM.at? p2.1.2.2.2.2.2.2.1 a0_k).bind fun e5 =>
  some e5.1
/-- slices.Index[[]int,int] -/
abbrev slices_Index_int_int.l0.X := (((List Int) × Int × Int × Int × Unit) × (Unit))
abbrev slices_Index_int_int.l0.Y := ((Unit) × (Unit)) ⊕ ((Int × Unit) × (Unit))
def slices_Index_int_int.l0.step (n : Nat) (L : slices_Index_int_int.l0.X → Option slices_Index_int_int.l0.Y) (x : slices_Index_int_int.l0.X) : Option slices_Index_int_int.l0.Y :=
  let c1 := (decide (x.1.2.2.2.1 < x.1.2.2.1))
  if c1 then
    (AM.at? x.1.1 x.1.2.2.2.1).bind fun e2 =>
    if (x.1.2.1 == e2) then
      some (Sum.inr ((x.1.2.2.2.1, ()), (())))
    else
    let c3 := (IntKind.wrap .i64 (x.1.2.2.2.1 + (1 : Int)))
    L ((x.1.1, x.1.2.1, x.1.2.2.1, c3, ()), (()))
  else
  some (Sum.inl ((()), (())))
def slices_Index_int_int.l0 (n m : Nat) (x : slices_Index_int_int.l0.X) : Option slices_Index_int_int.l0.Y := loop (slices_Index_int_int.l0.step n) m x
def slices_Index_int_int (n : Nat) (a0_s : (List Int)) (a1_v : Int) : Option Int :=
  (slices_Index_int_int.l0 n n ((a0_s, a1_v, (a0_s.length : Int), (0 : Int), ()), (()))).bind fun y4 =>
  sumE y4 (fun a5 =>
    some (-1 : Int))
    (fun b6 =>
    some b6.1.1)
/-- slices.Contains[[]int,int] -/
def slices_Contains_int_int (n : Nat) (a0_s : (List Int)) (a1_v : Int) : Option Bool :=
  (slices_Index_int_int n a0_s a1_v).bind fun y1 =>
  some (decide (y1 ≥ (0 : Int)))
/-- (*shunter/image.checker).calls -/
abbrev image_checker_calls.l0.X := (((Option T_image_checker) × (List Int) × (List Int) × Int × Int × Unit) × (Unit))
abbrev image_checker_calls.l0.Y := (((List Int) × Unit) × (Unit)) ⊕ ((Int × Unit) × (Unit))
def image_checker_calls.l0.step (n : Nat) (L : image_checker_calls.l0.X → Option image_checker_calls.l0.Y) (x : image_checker_calls.l0.X) : Option image_checker_calls.l0.Y :=
  let c2 := (decide (x.1.2.2.2.2.1 < x.1.2.2.2.1))
  if c2 then
    (AM.at? x.1.2.2.1 x.1.2.2.2.2.1).bind fun e3 =>
    (x.1.1).bind fun p4 =>
    let c7 := (IntKind.wrap .i64 ((p4.1.2.2.2.2.2.1.length : Int) - (1 : Int)))
    (image_within n e3 (0 : Int) c7).bind fun y8 =>
    if (!y8) then
      some (Sum.inr (((5 : Int), ()), (())))
    else
    if (decide (0 ≤ x.1.2.2.2.2.1) && decide (x.1.2.2.2.2.1 ≤ (x.1.2.1.length : Int)) && decide (0 ≤ (0 : Int)) && decide ((0 : Int) ≤ x.1.2.2.2.2.1)) then
    let c9 := ((x.1.2.1.take x.1.2.2.2.2.1.toNat).drop (0 : Int).toNat)
    (slices_Contains_int_int n c9 e3).bind fun y10 =>
    if y10 then
      some (Sum.inr (((6 : Int), ()), (())))
    else
    let c11 := (IntKind.wrap .i64 (x.1.2.2.2.2.1 + (1 : Int)))
    L ((x.1.1, x.1.2.1, x.1.2.2.1, x.1.2.2.2.1, c11, ()), (()))
    else none
  else
  some (Sum.inl ((x.1.2.1, ()), (())))
def image_checker_calls.l0 (n m : Nat) (x : image_checker_calls.l0.X) : Option image_checker_calls.l0.Y := loop (image_checker_calls.l0.step n) m x
def image_checker_calls (n : Nat) (a0_c : (Option T_image_checker)) (a1_l : (List Int)) : Option Int :=
  let c1 := (decide ((a1_l.length : Int) > (8 : Int)))
  if c1 then
    some (2 : Int)
  else
  (image_checker_calls.l0 n n ((a0_c, a1_l, a1_l, (a1_l.length : Int), (0 : Int), ()), (()))).bind fun y12 =>
  sumE y12 (fun a13 =>
    let c15 := (decide ((a13.1.1.length : Int) > (0 : Int)))
    (image_wants n c15 (5 : Int)).bind fun y16 =>
    some y16)
    (fun b14 =>
    some b14.1.1)
/-- (*shunter/image.checker).args -/
abbrev image_checker_args.l0.X := (((List Int) × (List T_api_Vec) × Int × Int × Unit) × (Unit))
abbrev image_checker_args.l0.Y := ((Unit) × (Unit)) ⊕ ((Int × Unit) × (Unit))
def image_checker_args.l0.step (n : Nat) (L : image_checker_args.l0.X → Option image_checker_args.l0.Y) (x : image_checker_args.l0.X) : Option image_checker_args.l0.Y :=
  let c7 := (decide (x.1.2.2.2.1 < x.1.2.2.1))
  if c7 then
    (AM.at? x.1.2.1 x.1.2.2.2.1).bind fun e8 =>
    (vec_May n e8).bind fun y9 =>
    if (!y9) then
      some (Sum.inr (((9 : Int), ()), (())))
    else
    (AM.at? x.1.1 x.1.2.2.2.1).bind fun e10 =>
    if (e8.1 != e10) then
      some (Sum.inr (((9 : Int), ()), (())))
    else
    let c12 := (IntKind.wrap .i64 (x.1.2.2.2.1 + (1 : Int)))
    L ((x.1.1, x.1.2.1, x.1.2.2.1, c12, ()), (()))
  else
  some (Sum.inl ((()), (())))
def image_checker_args.l0 (n m : Nat) (x : image_checker_args.l0.X) : Option image_checker_args.l0.Y := loop (image_checker_args.l0.step n) m x
def image_checker_args (n : Nat) (a0_c : (Option T_image_checker)) (a1_action : Int) (a2_l : (List T_api_Vec)) : Option Int :=
  (a0_c).bind fun p1 =>
  (AM.at? p1.1.2.2.2.2.2.1 a1_action).bind fun e4 =>
  let c6 := ((a2_l.length : Int) != (e4.2.1.length : Int))
  if c6 then
    some (2 : Int)
  else
  (image_checker_args.l0 n n ((e4.2.1, a2_l, (a2_l.length : Int), (0 : Int), ()), (()))).bind fun y13 =>
  sumE y13 (fun a14 =>
    some (0 : Int))
    (fun b15 =>
    some b15.1.1)
/-- (*shunter/image.checker).table -/
def image_checker_table (n : Nat) (a0_c : (Option T_image_checker)) (a1_i : Int) : Option Int :=
  (a0_c).bind fun p1 =>
  (AM.at? p1.1.2.2.2.2.2.2.1 a1_i).bind fun e4 =>
  let c5 := (some (fun n x => image_checker_table_1 n x.1 (some a0_c)))
  (image_titled n a1_i c5).bind fun y6 =>
  (image_within n e4.2.1 (0 : Int) (3 : Int)).bind fun y7 =>
  (image_wants n y7 (10 : Int)).bind fun y8 =>
  let c9 := (decide ((e4.2.2.1.length : Int) > (0 : Int)))
  (image_wants n c9 (5 : Int)).bind fun y10 =>
  (image_checker_key n a0_c e4.2.2.1 false).bind fun y11 =>
  (image_checker_calls n a0_c e4.2.2.2.1).bind fun y12 =>
  (slices_Contains_int_int n e4.2.2.2.1 e4.2.2.2.2.1.1).bind fun y13 =>
  (image_wants n y13 (16 : Int)).bind fun y14 =>
  let c15 := ([y6, y8, y10, y11, y12, y14] : List Int)
  (image_first n c15).bind fun y16 =>
  if (y16 != (0 : Int)) then
    some y16
  else
  (image_checker_args n a0_c e4.2.2.2.2.1.1 e4.2.2.2.2.1.2.1).bind fun y17 =>
  (image_within n e4.2.2.2.2.2.1 (1 : Int) (256 : Int)).bind fun y18 =>
  (image_wants n y18 (7 : Int)).bind fun y19 =>
  (image_first n ([y17, y19] : List Int)).bind fun y20 =>
  some y20
/-- (*shunter/image.checker).names -/
def image_checker_names (n : Nat) (a0_c : (Option T_image_checker)) (a1_x : T_api_Node) : Option Bool :=
  if (a1_x.1 == (0 : Int)) then
    (a0_c).bind fun p1 =>
    let c4 := (IntKind.wrap .i64 ((p1.1.2.2.2.2.2.2.1.length : Int) - (1 : Int)))
    (image_within n a1_x.2.1 (0 : Int) c4).bind fun y5 =>
    some y5
  else
  if (a1_x.1 == (2 : Int)) then
    (a0_c).bind fun p6 =>
    let c9 := (IntKind.wrap .i64 ((p6.1.2.2.2.2.2.1.length : Int) - (1 : Int)))
    (image_within n a1_x.2.1 (0 : Int) c9).bind fun y10 =>
    some y10
  else
  if (a1_x.1 == (1 : Int)) then
    some (a1_x.2.1 == (0 : Int))
  else
  (a0_c).bind fun p11 =>
  (image_Slot n p11.1 a1_x.2.1).bind fun y13 =>
  some y13.2
/-- (*shunter/image.checker).node -/
def image_checker_node.j2 (n : Nat) (a1_x : T_api_Node) (a2_i : Int) (a3_n : Int) (j22 : Int) : Option Int :=
  let c23 := (IntKind.wrap .i64 (a2_i + (1 : Int)))
  (image_within n a1_x.2.2.2.2.1 c23 a3_n).bind fun y24 =>
  (image_wants n y24 (12 : Int)).bind fun y25 =>
  (image_first n ([j22, y25] : List Int)).bind fun y26 =>
  some y26
def image_checker_node.j1 (n : Nat) (a0_c : (Option T_image_checker)) (a1_x : T_api_Node) (a2_i : Int) (a3_n : Int) : Option Int :=
  if (a1_x.1 == (2 : Int)) then
    (image_checker_args n a0_c a1_x.2.1 a1_x.2.2.2.1).bind fun y12 =>
    let c13 := (a1_x.2.2.2.2.2.1 == (0 : Int))
    (image_wants n c13 (4 : Int)).bind fun y14 =>
    (image_first n ([y12, y14] : List Int)).bind fun y15 =>
    image_checker_node.j2 n a1_x a2_i a3_n y15
  else
  let c16 := ((a1_x.2.2.2.1.length : Int) == (0 : Int))
  (image_wants n c16 (4 : Int)).bind fun y17 =>
  let c18 := (IntKind.wrap .i64 (a2_i + (1 : Int)))
  (image_within n a1_x.2.2.2.2.2.1 c18 a3_n).bind fun y19 =>
  (image_wants n y19 (12 : Int)).bind fun y20 =>
  (image_first n ([y17, y20] : List Int)).bind fun y21 =>
  image_checker_node.j2 n a1_x a2_i a3_n y21
def image_checker_node (n : Nat) (a0_c : (Option T_image_checker)) (a1_x : T_api_Node) (a2_i : Int) (a3_n : Int) : Option Int :=
  (image_within n a1_x.1 (0 : Int) (3 : Int)).bind fun y1 =>
  (image_wants n y1 (10 : Int)).bind fun y2 =>
  (image_checker_names n a0_c a1_x).bind fun y3 =>
  (image_wants n y3 (5 : Int)).bind fun y4 =>
  (image_first n ([y2, y4] : List Int)).bind fun y5 =>
  if (y5 != (0 : Int)) then
    some y5
  else
  if (a1_x.1 == (1 : Int)) then
    (image_checker_code n a0_c a1_x.2.2.1 ([] : List Int)).bind fun y6 =>
    if (y6 != (0 : Int)) then
      some y6
    else
    image_checker_node.j1 n a0_c a1_x a2_i a3_n
  else
  let c7 := ((a1_x.2.2.1.length : Int) == (0 : Int))
  (image_wants n c7 (4 : Int)).bind fun y8 =>
  if (y8 != (0 : Int)) then
    some y8
  else
  image_checker_node.j1 n a0_c a1_x a2_i a3_n
/-- (*shunter/image.checker).nodes$1 -/
def image_checker_nodes_1 (n : Nat) (a0_i : Int) (a1 : (Option (Option T_image_checker))) (a2 : (Option (List T_api_Node))) : Option Int :=
  (a1).bind fun p1 =>
  (a2).bind fun p2 =>
  (AM.at? p2 a0_i).bind fun e3 =>
  (a2).bind fun p4 =>
  (image_checker_node n p1 e3 a0_i (p4.length : Int)).bind fun y5 =>
  some y5
/-- (*shunter/image.checker).nodes -/
def image_checker_nodes (n : Nat) (a0_c : (Option T_image_checker)) (a1_l : (List T_api_Node)) : Option (Int × Int) :=
  let c1 := (some (fun n x => image_checker_nodes_1 n x.1 (some a0_c) (some a1_l)))
  (image_all n (a1_l.length : Int) (32 : Int) c1).bind fun y2 =>
  some (y2.1, y2.2)
/-- (*shunter/image.checker).out -/
abbrev image_checker_out.l0.X := (((Option T_image_checker) × Int × Bool × Bool × Int × Int × Unit) × (Unit))
abbrev image_checker_out.l0.Y := ((Bool × Bool × Unit) × (Unit))
def image_checker_out.l0.step (n : Nat) (L : image_checker_out.l0.X → Option image_checker_out.l0.Y) (x : image_checker_out.l0.X) : Option image_checker_out.l0.Y :=
  let c8 := (decide (x.1.2.2.2.2.2.1 < x.1.2.2.2.2.1))
  if c8 then
    if x.1.2.2.2.1 then
      let c19 := (IntKind.wrap .i64 (x.1.2.2.2.2.2.1 + (1 : Int)))
      L ((x.1.1, x.1.2.1, x.1.2.2.1, true, x.1.2.2.2.2.1, c19, ()), (()))
    else
    (x.1.1).bind fun p9 =>
    (AM.at? p9.1.2.2.2.2.2.2.2.2.2.1 x.1.2.2.2.2.2.1).bind fun e12 =>
    (x.1.1).bind fun p13 =>
    (AM.at? p13.1.2.2.2.2.2.2.2.2.2.1 x.1.2.1).bind fun e16 =>
    let c20 := (IntKind.wrap .i64 (x.1.2.2.2.2.2.1 + (1 : Int)))
    L ((x.1.1, x.1.2.1, x.1.2.2.1, (e12 == e16), x.1.2.2.2.2.1, c20, ()), (()))
  else
  some ((x.1.2.2.1, x.1.2.2.2.1, ()), (()))
def image_checker_out.l0 (n m : Nat) (x : image_checker_out.l0.X) : Option image_checker_out.l0.Y := loop (image_checker_out.l0.step n) m x
def image_checker_out (n : Nat) (a0_c : (Option T_image_checker)) (a1_i : Int) : Option Int :=
  (a0_c).bind fun p1 =>
  (a0_c).bind fun p3 =>
  (AM.at? p3.1.2.2.2.2.2.2.2.2.2.1 a1_i).bind fun e6 =>
  (image_Slot n p1.1 e6).bind fun y7 =>
  (image_checker_out.l0 n n ((a0_c, a1_i, y7.2, false, a1_i, (0 : Int), ()), (()))).bind fun y21 =>
  (image_wants n y21.1.1 (5 : Int)).bind fun y22 =>
  (image_wants n (!y21.1.2.1) (6 : Int)).bind fun y23 =>
  (image_first n ([y22, y23] : List Int)).bind fun y24 =>
  some y24
/-- shunter/shape.ahead -/
abbrev shape_ahead.l0.X := ((Int × Int × Int × Unit) × (T_api_Header × Unit))
abbrev shape_ahead.l0.Y := ((Int × Unit) × (Unit))
def shape_ahead.l0.step (n : Nat) (L : shape_ahead.l0.X → Option shape_ahead.l0.Y) (x : shape_ahead.l0.X) : Option shape_ahead.l0.Y :=
  let c1 := (decide (x.1.2.2.1 < x.1.2.1))
  if c1 then
    (AM.at? x.2.1.2.1 x.1.2.2.1).bind fun e2 =>
    let c4 := (IntKind.wrap .i64 (x.1.1 + e2.2.1))
    let c5 := (IntKind.wrap .i64 (x.1.2.2.1 + (1 : Int)))
    L ((c4, x.1.2.1, c5, ()), (x.2.1, ()))
  else
  some ((x.1.1, ()), (()))
def shape_ahead.l0 (n m : Nat) (x : shape_ahead.l0.X) : Option shape_ahead.l0.Y := loop (shape_ahead.l0.step n) m x
def shape_ahead (n : Nat) (a0_h : T_api_Header) (a1_f : Int) : Option (Int × Bool) :=
  (shape_ahead.l0 n n (((0 : Int), a1_f, (0 : Int), ()), (a0_h, ()))).bind fun y6 =>
  some (y6.1.1, true)
/-- shunter/shape.Offset -/
def shape_Offset (n : Nat) (a0_h : T_api_Header) (a1_f : Int) : Option (Int × Bool) :=
  (shape_May n a0_h).bind fun y1 =>
  if (y1 != (0 : Int)) then
    some ((0 : Int), false)
  else
  let c2 := (IntKind.wrap .i64 ((a0_h.2.1.length : Int) - (1 : Int)))
  (shape_within n a1_f (0 : Int) c2).bind fun y3 =>
  if (!y3) then
    some ((0 : Int), false)
  else
  (shape_ahead n a0_h a1_f).bind fun y5 =>
  some (y5.1, y5.2)
/-- (*shunter/image.checker).sums$1 -/
def image_checker_sums_1 (n : Nat) (a0_i : Int) (a1 : (Option (Option T_image_checker))) (a2 : (Option (List T_api_Sum))) : Option Int :=
  (a1).bind fun p1 =>
  (p1).bind fun p2 =>
  (a2).bind fun p4 =>
  (AM.at? p4 a0_i).bind fun e5 =>
  (a2).bind fun p7 =>
  (AM.at? p7 a0_i).bind fun e8 =>
  (image_Field n p2.1 e5.1 e8.2.1).bind fun y10 =>
  if (!y10.2) then
    some (5 : Int)
  else
  (a1).bind fun p11 =>
  (p11).bind fun p12 =>
  (a2).bind fun p14 =>
  (AM.at? p14 a0_i).bind fun e15 =>
  (image_Slot n p12.1 e15.1).bind fun y17 =>
  (a2).bind fun p18 =>
  (AM.at? p18 a0_i).bind fun e19 =>
  (shape_Offset n y17.1 e19.2.1).bind fun y21 =>
  if (y10.1 == (16 : Int)) then
    let c22 := ((y21.1.tmod (16 : Int)) == (0 : Int))
    (image_wants n c22 (9 : Int)).bind fun y23 =>
    some y23
  else
  (image_wants n false (9 : Int)).bind fun y24 =>
  some y24
/-- (*shunter/image.checker).sums -/
def image_checker_sums (n : Nat) (a0_c : (Option T_image_checker)) (a1_l : (List T_api_Sum)) : Option (Int × Int) :=
  let c1 := (some (fun n x => image_checker_sums_1 n x.1 (some a0_c) (some a1_l)))
  (image_all n (a1_l.length : Int) (4 : Int) c1).bind fun y2 =>
  some (y2.1, y2.2)
/-- (*shunter/image.checker).reg$1 -/
def image_checker_reg_1 (n : Nat) (a0_k : Int) (a1 : (Option (Option T_image_checker))) : Option ByteArray :=
  (a1).bind fun p1 =>
  (p1).bind fun p2 =>
  (AM.at? p2.1.2.2.2.2.2.2.2.2.2.2.2.2.1 a0_k).bind fun e5 =>
  some e5.1
/-- shunter/image.log -/
def image_log (n : Nat) (a0_n : Int) : Option Int :=
  (image_within n a0_n (1 : Int) (8 : Int)).bind fun y1 =>
  (image_wants n y1 (7 : Int)).bind fun y2 =>
  some y2
/-- (*shunter/image.checker).reg -/
def image_checker_reg (n : Nat) (a0_c : (Option T_image_checker)) (a1_i : Int) : Option Int :=
  (a0_c).bind fun p1 =>
  (AM.at? p1.1.2.2.2.2.2.2.2.2.2.2.2.2.1 a1_i).bind fun e4 =>
  let c5 := (some (fun n x => image_checker_reg_1 n x.1 (some a0_c)))
  (image_titled n a1_i c5).bind fun y6 =>
  (image_within n e4.2.1 (1 : Int) (128 : Int)).bind fun y7 =>
  (image_wants n y7 (9 : Int)).bind fun y8 =>
  (image_log n e4.2.2.1).bind fun y9 =>
  (image_first n ([y6, y8, y9] : List Int)).bind fun y10 =>
  some y10
/-- (*shunter/image.checker).counter$1 -/
def image_checker_counter_1 (n : Nat) (a0_k : Int) (a1 : (Option (Option T_image_checker))) : Option ByteArray :=
  (a1).bind fun p1 =>
  (p1).bind fun p2 =>
  (AM.at? p2.1.2.2.2.2.2.2.2.2.2.2.2.2.2.1 a0_k).bind fun e5 =>
  some e5.1
/-- (*shunter/image.checker).counter -/
def image_checker_counter (n : Nat) (a0_c : (Option T_image_checker)) (a1_i : Int) : Option Int :=
  let c1 := (some (fun n x => image_checker_counter_1 n x.1 (some a0_c)))
  (image_titled n a1_i c1).bind fun y2 =>
  (a0_c).bind fun p3 =>
  (AM.at? p3.1.2.2.2.2.2.2.2.2.2.2.2.2.2.1 a1_i).bind fun e6 =>
  (image_log n e6.2.1).bind fun y8 =>
  (image_first n ([y2, y8] : List Int)).bind fun y9 =>
  some y9
/-- (*shunter/image.checker).meter$1 -/
def image_checker_meter_1 (n : Nat) (a0_k : Int) (a1 : (Option (Option T_image_checker))) : Option ByteArray :=
  (a1).bind fun p1 =>
  (p1).bind fun p2 =>
  (AM.at? p2.1.2.2.2.2.2.2.2.2.2.2.2.2.2.2.1 a0_k).bind fun e5 =>
  some e5.1
/-- (*shunter/image.checker).meter -/
def image_checker_meter (n : Nat) (a0_c : (Option T_image_checker)) (a1_i : Int) : Option Int :=
  (a0_c).bind fun p1 =>
  (AM.at? p1.1.2.2.2.2.2.2.2.2.2.2.2.2.2.2.1 a1_i).bind fun e4 =>
  let c5 := (some (fun n x => image_checker_meter_1 n x.1 (some a0_c)))
  (image_titled n a1_i c5).bind fun y6 =>
  (image_log n e4.2.1).bind fun y7 =>
  (image_within n e4.2.2.1 (0 : Int) (65535 : Int)).bind fun y8 =>
  if y8 then
    (image_within n e4.2.2.2.1 (1 : Int) (1048576 : Int)).bind fun y9 =>
    (image_wants n y9 (7 : Int)).bind fun y10 =>
    (image_first n ([y6, y7, y10] : List Int)).bind fun y11 =>
    some y11
  else
  (image_wants n false (7 : Int)).bind fun y12 =>
  (image_first n ([y6, y7, y12] : List Int)).bind fun y13 =>
  some y13
/-- (*shunter/image.checker).part -/
def image_checker_part (n : Nat) (a0_c : (Option T_image_checker)) (a1_i : Int) : Option (Int × Int) :=
  (a0_c).bind fun p1 =>
  if (a1_i == (0 : Int)) then
    (name_May n p1.1.1).bind fun y3 =>
    (image_wants n y3 (4 : Int)).bind fun y4 =>
    (image_within n p1.1.2.2.2.2.2.2.2.2.2.2.2.2.2.2.2.1 (1 : Int) (64 : Int)).bind fun y5 =>
    if y5 then
      (image_within n p1.1.2.2.2.2.2.2.2.2.2.2.2.2.2.2.2.2.1 (1 : Int) (32 : Int)).bind fun y6 =>
      if y6 then
        (image_within n p1.1.2.2.2.2.2.2.2.2.2.2.2.2.2.2.2.2.2.1 (0 : Int) (4 : Int)).bind fun y7 =>
        (image_wants n y7 (7 : Int)).bind fun y8 =>
        (image_first n ([y4, y8] : List Int)).bind fun y9 =>
        some ((0 : Int), y9)
      else
      (image_wants n false (7 : Int)).bind fun y10 =>
      (image_first n ([y4, y10] : List Int)).bind fun y11 =>
      some ((0 : Int), y11)
    else
    (image_wants n false (7 : Int)).bind fun y12 =>
    (image_first n ([y4, y12] : List Int)).bind fun y13 =>
    some ((0 : Int), y13)
  else
  if (a1_i == (1 : Int)) then
    let c15 := (some (fun n x => image_checker_header n a0_c x.1))
    (image_all n (p1.1.2.1.length : Int) (16 : Int) c15).bind fun y16 =>
    some (y16.1, y16.2)
  else
  if (a1_i == (2 : Int)) then
    (shape_Insts n p1.1.2.1 p1.1.2.2.1).bind fun y17 =>
    some ((0 : Int), y17)
  else
  if (a1_i == (3 : Int)) then
    let c18 := (some (fun n x => image_checker_meta n a0_c x.1))
    (image_all n (p1.1.2.2.2.1.length : Int) (16 : Int) c18).bind fun y19 =>
    some (y19.1, y19.2)
  else
  if (a1_i == (4 : Int)) then
    let c20 := ((p1.1.2.2.2.2.1.length : Int) == (0 : Int))
    if c20 then
      some ((0 : Int), (5 : Int))
    else
    let c21 := (some (fun n x => image_checker_state n a0_c x.1))
    (image_all n (p1.1.2.2.2.2.1.length : Int) (16 : Int) c21).bind fun y22 =>
    some (y22.1, y22.2)
  else
  if (a1_i == (5 : Int)) then
    let c23 := (some (fun n x => image_checker_action n a0_c x.1))
    (image_all n (p1.1.2.2.2.2.2.1.length : Int) (32 : Int) c23).bind fun y24 =>
    some (y24.1, y24.2)
  else
  if (a1_i == (6 : Int)) then
    let c25 := (some (fun n x => image_checker_table n a0_c x.1))
    (image_all n (p1.1.2.2.2.2.2.2.1.length : Int) (8 : Int) c25).bind fun y26 =>
    some (y26.1, y26.2)
  else
  if (a1_i == (7 : Int)) then
    (image_checker_nodes n a0_c p1.1.2.2.2.2.2.2.2.1).bind fun y27 =>
    some (y27.1, y27.2)
  else
  if (a1_i == (8 : Int)) then
    (image_checker_nodes n a0_c p1.1.2.2.2.2.2.2.2.2.1).bind fun y28 =>
    some (y28.1, y28.2)
  else
  if (a1_i == (9 : Int)) then
    let c29 := (some (fun n x => image_checker_out n a0_c x.1))
    (image_all n (p1.1.2.2.2.2.2.2.2.2.2.1.length : Int) (32 : Int) c29).bind fun y30 =>
    some (y30.1, y30.2)
  else
  if (a1_i == (10 : Int)) then
    (image_checker_sums n a0_c p1.1.2.2.2.2.2.2.2.2.2.2.1).bind fun y31 =>
    some (y31.1, y31.2)
  else
  if (a1_i == (11 : Int)) then
    (image_checker_sums n a0_c p1.1.2.2.2.2.2.2.2.2.2.2.2.1).bind fun y32 =>
    some (y32.1, y32.2)
  else
  if (a1_i == (12 : Int)) then
    let c33 := (some (fun n x => image_checker_reg n a0_c x.1))
    (image_all n (p1.1.2.2.2.2.2.2.2.2.2.2.2.2.1.length : Int) (8 : Int) c33).bind fun y34 =>
    some (y34.1, y34.2)
  else
  if (a1_i == (13 : Int)) then
    let c35 := (some (fun n x => image_checker_counter n a0_c x.1))
    (image_all n (p1.1.2.2.2.2.2.2.2.2.2.2.2.2.2.1.length : Int) (8 : Int) c35).bind fun y36 =>
    some (y36.1, y36.2)
  else
  let c37 := (some (fun n x => image_checker_meter n a0_c x.1))
  (image_all n (p1.1.2.2.2.2.2.2.2.2.2.2.2.2.2.2.1.length : Int) (8 : Int) c37).bind fun y38 =>
  some (y38.1, y38.2)
/-- shunter/image.Check -/
abbrev image_Check.l0.X := ((Int × Unit) × (T_image_checker × Unit))
abbrev image_Check.l0.Y := ((Unit) × (Unit)) ⊕ ((((Option T_image_Flaw) ⊕ Unit) × Unit) × (Unit))
def image_Check.l0.step (n : Nat) (L : image_Check.l0.X → Option image_Check.l0.Y) (x : image_Check.l0.X) : Option image_Check.l0.Y :=
  let c1 := (decide (x.1.1 < (15 : Int)))
  if c1 then
    (image_checker_part n (some x.2.1) x.1.1).bind fun y2 =>
    if (y2.2 != (0 : Int)) then
      let c3 := (Sum.inl (some (x.1.1, y2.1, y2.2, ())))
      some (Sum.inr ((c3, ()), (())))
    else
    let c4 := (IntKind.wrap .i64 (x.1.1 + (1 : Int)))
    L ((c4, ()), (x.2.1, ()))
  else
  some (Sum.inl ((()), (())))
def image_Check.l0 (n m : Nat) (x : image_Check.l0.X) : Option image_Check.l0.Y := loop (image_Check.l0.step n) m x
def image_Check (n : Nat) (a0_m : T_api_Image) : Option ((Option T_image_Flaw) ⊕ Unit) :=
  (image_Check.l0 n n (((0 : Int), ()), ((a0_m, ()), ()))).bind fun y5 =>
  sumE y5 (fun a6 =>
    some (Sum.inr ()))
    (fun b7 =>
    some b7.1.1)
/-- bytes.Clone -/
def bytes_Clone (n : Nat) (l : List Int) : Option (List Int) := AM.cloneB l
/-- shunter/wire.put -/
abbrev wire_put.l0.X := ((Int × Int × Int × Int × Unit) × ((List Int) × Unit))
abbrev wire_put.l0.Y := ((Unit) × ((List Int) × Unit))
def wire_put.l0.step (n : Nat) (L : wire_put.l0.X → Option wire_put.l0.Y) (x : wire_put.l0.X) : Option wire_put.l0.Y :=
  let c2 := (decide (x.1.2.2.2.1 < x.1.2.2.1))
  if c2 then
    let c3 := (IntKind.wrap .i64 (x.1.2.1 - (1 : Int)))
    let c4 := (IntKind.wrap .i64 (c3 - x.1.2.2.2.1))
    let c5 := (IntKind.wrap .i64 ((8 : Int) * c4))
    if decide (c5 < 0) then none else
    let c6 := (IntKind.wrap .u8 (AM.shiftR .i64 x.1.1 c5))
    if decide (x.2.1.length + ([c6] : List Int).length ≤ 140737488355328) then
    let c7 := (IntKind.wrap .i64 (x.1.2.2.2.1 + (1 : Int)))
    L ((x.1.1, x.1.2.1, x.1.2.2.1, c7, ()), ((x.2.1 ++ ([c6] : List Int)), ()))
    else none
  else
  some ((()), (x.2.1, ()))
def wire_put.l0 (n m : Nat) (x : wire_put.l0.X) : Option wire_put.l0.Y := loop (wire_put.l0.step n) m x
def wire_put (n : Nat) (a0_b : (List Int)) (a1_n : Int) (a2_size : Int) : Option (List Int) :=
  (bytes_Clone n a0_b).bind fun y1 =>
  (wire_put.l0 n n ((a1_n, a2_size, a2_size, (0 : Int), ()), (y1, ()))).bind fun y8 =>
  some y8.2.1
/-- shunter/wire.Byte -/
def wire_Byte (n : Nat) (a0_b : (List Int)) (a1_n : Int) : Option (List Int) :=
  (wire_put n a0_b a1_n (1 : Int)).bind fun y1 =>
  some y1
/-- shunter/wire.Name -/
def wire_Name (n : Nat) (a0_b : (List Int)) (a1_s : ByteArray) : Option (List Int) :=
  let c1 := (decide ((a1_s.size : Int) > (255 : Int)))
  if c1 then
    (wire_put n a0_b (0 : Int) (1 : Int)).bind fun y2 =>
    some y2
  else
  (wire_put n a0_b (a1_s.size : Int) (1 : Int)).bind fun y3 =>
  if decide (y3.length + (AM.bytesOf a1_s).length ≤ 140737488355328) then
  some (y3 ++ (AM.bytesOf a1_s))
  else none
/-- shunter/pack.list[shunter/api.Header] -/
abbrev pack_list_api_Header.l0.X := (((List Int) × (Option (Nat → ((List Int) × (T_api_Header × Unit)) → Option (List Int))) × (List T_api_Header) × Int × Int × Unit) × (Unit))
abbrev pack_list_api_Header.l0.Y := (((List Int) × Unit) × (Unit))
def pack_list_api_Header.l0.step (n : Nat) (L : pack_list_api_Header.l0.X → Option pack_list_api_Header.l0.Y) (x : pack_list_api_Header.l0.X) : Option pack_list_api_Header.l0.Y :=
  let c2 := (decide (x.1.2.2.2.2.1 < x.1.2.2.2.1))
  if c2 then
    (AM.at? x.1.2.2.1 x.1.2.2.2.2.1).bind fun e3 =>
    (x.1.2.1).bind fun g4 =>
    (g4 n (x.1.1, e3, ())).bind fun y5 =>
    let c6 := (IntKind.wrap .i64 (x.1.2.2.2.2.1 + (1 : Int)))
    L ((y5, x.1.2.1, x.1.2.2.1, x.1.2.2.2.1, c6, ()), (()))
  else
  some ((x.1.1, ()), (()))
def pack_list_api_Header.l0 (n m : Nat) (x : pack_list_api_Header.l0.X) : Option pack_list_api_Header.l0.Y := loop (pack_list_api_Header.l0.step n) m x
def pack_list_api_Header (n : Nat) (a0_b : (List Int)) (a1_l : (List T_api_Header)) (a2_one : (Option (Nat → ((List Int) × (T_api_Header × Unit)) → Option (List Int)))) : Option (List Int) :=
  (wire_Byte n a0_b (a1_l.length : Int)).bind fun y1 =>
  (pack_list_api_Header.l0 n n ((y1, a2_one, a1_l, (a1_l.length : Int), (0 : Int), ()), (()))).bind fun y7 =>
  some y7.1.1
/-- shunter/pack.list[shunter/api.Field] -/
abbrev pack_list_api_Field.l0.X := (((List Int) × (Option (Nat → ((List Int) × (T_api_Field × Unit)) → Option (List Int))) × (List T_api_Field) × Int × Int × Unit) × (Unit))
abbrev pack_list_api_Field.l0.Y := (((List Int) × Unit) × (Unit))
def pack_list_api_Field.l0.step (n : Nat) (L : pack_list_api_Field.l0.X → Option pack_list_api_Field.l0.Y) (x : pack_list_api_Field.l0.X) : Option pack_list_api_Field.l0.Y :=
  let c2 := (decide (x.1.2.2.2.2.1 < x.1.2.2.2.1))
  if c2 then
    (AM.at? x.1.2.2.1 x.1.2.2.2.2.1).bind fun e3 =>
    (x.1.2.1).bind fun g4 =>
    (g4 n (x.1.1, e3, ())).bind fun y5 =>
    let c6 := (IntKind.wrap .i64 (x.1.2.2.2.2.1 + (1 : Int)))
    L ((y5, x.1.2.1, x.1.2.2.1, x.1.2.2.2.1, c6, ()), (()))
  else
  some ((x.1.1, ()), (()))
def pack_list_api_Field.l0 (n m : Nat) (x : pack_list_api_Field.l0.X) : Option pack_list_api_Field.l0.Y := loop (pack_list_api_Field.l0.step n) m x
def pack_list_api_Field (n : Nat) (a0_b : (List Int)) (a1_l : (List T_api_Field)) (a2_one : (Option (Nat → ((List Int) × (T_api_Field × Unit)) → Option (List Int)))) : Option (List Int) :=
  (wire_Byte n a0_b (a1_l.length : Int)).bind fun y1 =>
  (pack_list_api_Field.l0 n n ((y1, a2_one, a1_l, (a1_l.length : Int), (0 : Int), ()), (()))).bind fun y7 =>
  some y7.1.1
/-- shunter/pack.field -/
def pack_field (n : Nat) (a0_b : (List Int)) (a1_f : T_api_Field) : Option (List Int) :=
  (wire_Name n a0_b a1_f.1).bind fun y1 =>
  (wire_Byte n y1 a1_f.2.1).bind fun y2 =>
  some y2
/-- shunter/wire.Two -/
def wire_Two (n : Nat) (a0_b : (List Int)) (a1_n : Int) : Option (List Int) :=
  (wire_put n a0_b a1_n (2 : Int)).bind fun y1 =>
  some y1
/-- shunter/pack.header -/
def pack_header (n : Nat) (a0_b : (List Int)) (a1_h : T_api_Header) : Option (List Int) :=
  (wire_Name n a0_b a1_h.1).bind fun y1 =>
  (pack_list_api_Field n y1 a1_h.2.1 (some (fun n x => pack_field n x.1 x.2.1))).bind fun y2 =>
  (wire_Byte n y2 a1_h.2.2.1).bind fun y3 =>
  (wire_Byte n y3 a1_h.2.2.2.1).bind fun y4 =>
  (wire_Byte n y4 a1_h.2.2.2.2.1).bind fun y5 =>
  (wire_Two n y5 a1_h.2.2.2.2.2.1).bind fun y6 =>
  some y6
/-- shunter/pack.list[shunter/api.Inst] -/
abbrev pack_list_api_Inst.l0.X := (((List Int) × (Option (Nat → ((List Int) × (T_api_Inst × Unit)) → Option (List Int))) × (List T_api_Inst) × Int × Int × Unit) × (Unit))
abbrev pack_list_api_Inst.l0.Y := (((List Int) × Unit) × (Unit))
def pack_list_api_Inst.l0.step (n : Nat) (L : pack_list_api_Inst.l0.X → Option pack_list_api_Inst.l0.Y) (x : pack_list_api_Inst.l0.X) : Option pack_list_api_Inst.l0.Y :=
  let c2 := (decide (x.1.2.2.2.2.1 < x.1.2.2.2.1))
  if c2 then
    (AM.at? x.1.2.2.1 x.1.2.2.2.2.1).bind fun e3 =>
    (x.1.2.1).bind fun g4 =>
    (g4 n (x.1.1, e3, ())).bind fun y5 =>
    let c6 := (IntKind.wrap .i64 (x.1.2.2.2.2.1 + (1 : Int)))
    L ((y5, x.1.2.1, x.1.2.2.1, x.1.2.2.2.1, c6, ()), (()))
  else
  some ((x.1.1, ()), (()))
def pack_list_api_Inst.l0 (n m : Nat) (x : pack_list_api_Inst.l0.X) : Option pack_list_api_Inst.l0.Y := loop (pack_list_api_Inst.l0.step n) m x
def pack_list_api_Inst (n : Nat) (a0_b : (List Int)) (a1_l : (List T_api_Inst)) (a2_one : (Option (Nat → ((List Int) × (T_api_Inst × Unit)) → Option (List Int)))) : Option (List Int) :=
  (wire_Byte n a0_b (a1_l.length : Int)).bind fun y1 =>
  (pack_list_api_Inst.l0 n n ((y1, a2_one, a1_l, (a1_l.length : Int), (0 : Int), ()), (()))).bind fun y7 =>
  some y7.1.1
/-- shunter/pack.inst -/
def pack_inst (n : Nat) (a0_b : (List Int)) (a1_x : T_api_Inst) : Option (List Int) :=
  (wire_Name n a0_b a1_x.1).bind fun y1 =>
  (wire_Byte n y1 a1_x.2.1).bind fun y2 =>
  (wire_Byte n y2 a1_x.2.2.1).bind fun y3 =>
  some y3
/-- shunter/pack.list[shunter/api.State] -/
abbrev pack_list_api_State.l0.X := (((List Int) × (Option (Nat → ((List Int) × (T_api_State × Unit)) → Option (List Int))) × (List T_api_State) × Int × Int × Unit) × (Unit))
abbrev pack_list_api_State.l0.Y := (((List Int) × Unit) × (Unit))
def pack_list_api_State.l0.step (n : Nat) (L : pack_list_api_State.l0.X → Option pack_list_api_State.l0.Y) (x : pack_list_api_State.l0.X) : Option pack_list_api_State.l0.Y :=
  let c2 := (decide (x.1.2.2.2.2.1 < x.1.2.2.2.1))
  if c2 then
    (AM.at? x.1.2.2.1 x.1.2.2.2.2.1).bind fun e3 =>
    (x.1.2.1).bind fun g4 =>
    (g4 n (x.1.1, e3, ())).bind fun y5 =>
    let c6 := (IntKind.wrap .i64 (x.1.2.2.2.2.1 + (1 : Int)))
    L ((y5, x.1.2.1, x.1.2.2.1, x.1.2.2.2.1, c6, ()), (()))
  else
  some ((x.1.1, ()), (()))
def pack_list_api_State.l0 (n m : Nat) (x : pack_list_api_State.l0.X) : Option pack_list_api_State.l0.Y := loop (pack_list_api_State.l0.step n) m x
def pack_list_api_State (n : Nat) (a0_b : (List Int)) (a1_l : (List T_api_State)) (a2_one : (Option (Nat → ((List Int) × (T_api_State × Unit)) → Option (List Int)))) : Option (List Int) :=
  (wire_Byte n a0_b (a1_l.length : Int)).bind fun y1 =>
  (pack_list_api_State.l0 n n ((y1, a2_one, a1_l, (a1_l.length : Int), (0 : Int), ()), (()))).bind fun y7 =>
  some y7.1.1
/-- shunter/pack.list[shunter/api.Ext] -/
abbrev pack_list_api_Ext.l0.X := (((List Int) × (Option (Nat → ((List Int) × (T_api_Sum × Unit)) → Option (List Int))) × (List T_api_Sum) × Int × Int × Unit) × (Unit))
abbrev pack_list_api_Ext.l0.Y := (((List Int) × Unit) × (Unit))
def pack_list_api_Ext.l0.step (n : Nat) (L : pack_list_api_Ext.l0.X → Option pack_list_api_Ext.l0.Y) (x : pack_list_api_Ext.l0.X) : Option pack_list_api_Ext.l0.Y :=
  let c2 := (decide (x.1.2.2.2.2.1 < x.1.2.2.2.1))
  if c2 then
    (AM.at? x.1.2.2.1 x.1.2.2.2.2.1).bind fun e3 =>
    (x.1.2.1).bind fun g4 =>
    (g4 n (x.1.1, e3, ())).bind fun y5 =>
    let c6 := (IntKind.wrap .i64 (x.1.2.2.2.2.1 + (1 : Int)))
    L ((y5, x.1.2.1, x.1.2.2.1, x.1.2.2.2.1, c6, ()), (()))
  else
  some ((x.1.1, ()), (()))
def pack_list_api_Ext.l0 (n m : Nat) (x : pack_list_api_Ext.l0.X) : Option pack_list_api_Ext.l0.Y := loop (pack_list_api_Ext.l0.step n) m x
def pack_list_api_Ext (n : Nat) (a0_b : (List Int)) (a1_l : (List T_api_Sum)) (a2_one : (Option (Nat → ((List Int) × (T_api_Sum × Unit)) → Option (List Int)))) : Option (List Int) :=
  (wire_Byte n a0_b (a1_l.length : Int)).bind fun y1 =>
  (pack_list_api_Ext.l0 n n ((y1, a2_one, a1_l, (a1_l.length : Int), (0 : Int), ()), (()))).bind fun y7 =>
  some y7.1.1
/-- shunter/pack.state$1 -/
def pack_state_1 (n : Nat) (a0_b : (List Int)) (a1_x : T_api_Sum) : Option (List Int) :=
  (wire_Byte n a0_b a1_x.1).bind fun y1 =>
  (wire_Byte n y1 a1_x.2.1).bind fun y2 =>
  some y2
/-- shunter/pack.list[shunter/api.Key] -/
abbrev pack_list_api_Key.l0.X := (((List Int) × (Option (Nat → ((List Int) × (T_image_Flaw × Unit)) → Option (List Int))) × (List T_image_Flaw) × Int × Int × Unit) × (Unit))
abbrev pack_list_api_Key.l0.Y := (((List Int) × Unit) × (Unit))
def pack_list_api_Key.l0.step (n : Nat) (L : pack_list_api_Key.l0.X → Option pack_list_api_Key.l0.Y) (x : pack_list_api_Key.l0.X) : Option pack_list_api_Key.l0.Y :=
  let c2 := (decide (x.1.2.2.2.2.1 < x.1.2.2.2.1))
  if c2 then
    (AM.at? x.1.2.2.1 x.1.2.2.2.2.1).bind fun e3 =>
    (x.1.2.1).bind fun g4 =>
    (g4 n (x.1.1, e3, ())).bind fun y5 =>
    let c6 := (IntKind.wrap .i64 (x.1.2.2.2.2.1 + (1 : Int)))
    L ((y5, x.1.2.1, x.1.2.2.1, x.1.2.2.2.1, c6, ()), (()))
  else
  some ((x.1.1, ()), (()))
def pack_list_api_Key.l0 (n m : Nat) (x : pack_list_api_Key.l0.X) : Option pack_list_api_Key.l0.Y := loop (pack_list_api_Key.l0.step n) m x
def pack_list_api_Key (n : Nat) (a0_b : (List Int)) (a1_l : (List T_image_Flaw)) (a2_one : (Option (Nat → ((List Int) × (T_image_Flaw × Unit)) → Option (List Int)))) : Option (List Int) :=
  (wire_Byte n a0_b (a1_l.length : Int)).bind fun y1 =>
  (pack_list_api_Key.l0 n n ((y1, a2_one, a1_l, (a1_l.length : Int), (0 : Int), ()), (()))).bind fun y7 =>
  some y7.1.1
/-- shunter/pack.key -/
def pack_key (n : Nat) (a0_b : (List Int)) (a1_k : T_image_Flaw) : Option (List Int) :=
  (wire_Byte n a0_b a1_k.1).bind fun y1 =>
  (wire_Two n y1 a1_k.2.1).bind fun y2 =>
  (wire_Byte n y2 a1_k.2.2.1).bind fun y3 =>
  some y3
/-- shunter/pack.list[shunter/api.Case] -/
abbrev pack_list_api_Case.l0.X := (((List Int) × (Option (Nat → ((List Int) × (T_api_Case × Unit)) → Option (List Int))) × (List T_api_Case) × Int × Int × Unit) × (Unit))
abbrev pack_list_api_Case.l0.Y := (((List Int) × Unit) × (Unit))
def pack_list_api_Case.l0.step (n : Nat) (L : pack_list_api_Case.l0.X → Option pack_list_api_Case.l0.Y) (x : pack_list_api_Case.l0.X) : Option pack_list_api_Case.l0.Y :=
  let c2 := (decide (x.1.2.2.2.2.1 < x.1.2.2.2.1))
  if c2 then
    (AM.at? x.1.2.2.1 x.1.2.2.2.2.1).bind fun e3 =>
    (x.1.2.1).bind fun g4 =>
    (g4 n (x.1.1, e3, ())).bind fun y5 =>
    let c6 := (IntKind.wrap .i64 (x.1.2.2.2.2.1 + (1 : Int)))
    L ((y5, x.1.2.1, x.1.2.2.1, x.1.2.2.2.1, c6, ()), (()))
  else
  some ((x.1.1, ()), (()))
def pack_list_api_Case.l0 (n m : Nat) (x : pack_list_api_Case.l0.X) : Option pack_list_api_Case.l0.Y := loop (pack_list_api_Case.l0.step n) m x
def pack_list_api_Case (n : Nat) (a0_b : (List Int)) (a1_l : (List T_api_Case)) (a2_one : (Option (Nat → ((List Int) × (T_api_Case × Unit)) → Option (List Int)))) : Option (List Int) :=
  (wire_Byte n a0_b (a1_l.length : Int)).bind fun y1 =>
  (pack_list_api_Case.l0 n n ((y1, a2_one, a1_l, (a1_l.length : Int), (0 : Int), ()), (()))).bind fun y7 =>
  some y7.1.1
/-- shunter/wire.room -/
def wire_room (n : Nat) (a0_w : Int) : Option Int :=
  let c1 := (IntKind.wrap .i64 (a0_w + (8 : Int)))
  let c2 := (IntKind.wrap .i64 (c1 - (1 : Int)))
  let c3 := (IntKind.wrap .i64 (c2.tdiv (8 : Int)))
  some c3
/-- shunter/wire.Vec -/
abbrev wire_Vec.l0.X := ((Int × Unit) × (T_api_Vec × (List Int) × Unit))
abbrev wire_Vec.l0.Y := ((Unit) × ((List Int) × Unit))
def wire_Vec.l0.step (n : Nat) (L : wire_Vec.l0.X → Option wire_Vec.l0.Y) (x : wire_Vec.l0.X) : Option wire_Vec.l0.Y :=
  if (decide (x.1.1 ≥ (0 : Int))) then
    (vec_Word n x.2.1).bind fun y6 =>
    let c7 := (IntKind.wrap .i64 ((8 : Int) * x.1.1))
    (word_Shr n y6 c7).bind fun y8 =>
    let c9 := ([(IntKind.wrap .u8 y8.2.1)] : List Int)
    if decide (x.2.2.1.length + c9.length ≤ 140737488355328) then
    let c10 := (IntKind.wrap .i64 (x.1.1 - (1 : Int)))
    L ((c10, ()), (x.2.1, (x.2.2.1 ++ c9), ()))
    else none
  else
  some ((()), (x.2.2.1, ()))
def wire_Vec.l0 (n m : Nat) (x : wire_Vec.l0.X) : Option wire_Vec.l0.Y := loop (wire_Vec.l0.step n) m x
def wire_Vec (n : Nat) (a0_b : (List Int)) (a1_v : T_api_Vec) : Option (List Int) :=
  (vec_May n a1_v).bind fun y1 =>
  if (!y1) then
    (wire_put n a0_b (0 : Int) (1 : Int)).bind fun y2 =>
    some y2
  else
  (wire_put n a0_b a1_v.1 (1 : Int)).bind fun y3 =>
  (wire_room n a1_v.1).bind fun y4 =>
  let c5 := (IntKind.wrap .i64 (y4 - (1 : Int)))
  (wire_Vec.l0 n n ((c5, ()), (a1_v, y3, ()))).bind fun y11 =>
  some y11.2.1
/-- shunter/pack.next -/
def pack_next (n : Nat) (a0_b : (List Int)) (a1_n : Int) : Option (List Int) :=
  let c1 := (IntKind.wrap .i64 (a1_n + (256 : Int)))
  (wire_Byte n a0_b c1).bind fun y2 =>
  some y2
/-- shunter/pack.state$2 -/
def pack_state_2 (n : Nat) (a0_b : (List Int)) (a1_c : T_api_Case) : Option (List Int) :=
  (wire_Vec n a0_b a1_c.1).bind fun y1 =>
  (wire_Vec n y1 a1_c.2.1).bind fun y2 =>
  (pack_next n y2 a1_c.2.2.1).bind fun y3 =>
  some y3
/-- shunter/pack.state -/
def pack_state (n : Nat) (a0_b : (List Int)) (a1_s : T_api_State) : Option (List Int) :=
  (wire_Name n a0_b a1_s.1).bind fun y1 =>
  (pack_list_api_Ext n y1 a1_s.2.1 (some (fun n x => pack_state_1 n x.1 x.2.1))).bind fun y2 =>
  (pack_list_api_Key n y2 a1_s.2.2.1 (some (fun n x => pack_key n x.1 x.2.1))).bind fun y3 =>
  (pack_list_api_Case n y3 a1_s.2.2.2.1 (some (fun n x => pack_state_2 n x.1 x.2.1))).bind fun y4 =>
  (pack_next n y4 a1_s.2.2.2.2.1).bind fun y5 =>
  some y5
/-- shunter/pack.list[shunter/api.Action] -/
abbrev pack_list_api_Action.l0.X := (((List Int) × (Option (Nat → ((List Int) × (T_api_Action × Unit)) → Option (List Int))) × (List T_api_Action) × Int × Int × Unit) × (Unit))
abbrev pack_list_api_Action.l0.Y := (((List Int) × Unit) × (Unit))
def pack_list_api_Action.l0.step (n : Nat) (L : pack_list_api_Action.l0.X → Option pack_list_api_Action.l0.Y) (x : pack_list_api_Action.l0.X) : Option pack_list_api_Action.l0.Y :=
  let c2 := (decide (x.1.2.2.2.2.1 < x.1.2.2.2.1))
  if c2 then
    (AM.at? x.1.2.2.1 x.1.2.2.2.2.1).bind fun e3 =>
    (x.1.2.1).bind fun g4 =>
    (g4 n (x.1.1, e3, ())).bind fun y5 =>
    let c6 := (IntKind.wrap .i64 (x.1.2.2.2.2.1 + (1 : Int)))
    L ((y5, x.1.2.1, x.1.2.2.1, x.1.2.2.2.1, c6, ()), (()))
  else
  some ((x.1.1, ()), (()))
def pack_list_api_Action.l0 (n m : Nat) (x : pack_list_api_Action.l0.X) : Option pack_list_api_Action.l0.Y := loop (pack_list_api_Action.l0.step n) m x
def pack_list_api_Action (n : Nat) (a0_b : (List Int)) (a1_l : (List T_api_Action)) (a2_one : (Option (Nat → ((List Int) × (T_api_Action × Unit)) → Option (List Int)))) : Option (List Int) :=
  (wire_Byte n a0_b (a1_l.length : Int)).bind fun y1 =>
  (pack_list_api_Action.l0 n n ((y1, a2_one, a1_l, (a1_l.length : Int), (0 : Int), ()), (()))).bind fun y7 =>
  some y7.1.1
/-- shunter/pack.list[shunter/api.Ins] -/
abbrev pack_list_api_Ins.l0.X := (((List Int) × (Option (Nat → ((List Int) × (T_api_Ins × Unit)) → Option (List Int))) × (List T_api_Ins) × Int × Int × Unit) × (Unit))
abbrev pack_list_api_Ins.l0.Y := (((List Int) × Unit) × (Unit))
def pack_list_api_Ins.l0.step (n : Nat) (L : pack_list_api_Ins.l0.X → Option pack_list_api_Ins.l0.Y) (x : pack_list_api_Ins.l0.X) : Option pack_list_api_Ins.l0.Y :=
  let c2 := (decide (x.1.2.2.2.2.1 < x.1.2.2.2.1))
  if c2 then
    (AM.at? x.1.2.2.1 x.1.2.2.2.2.1).bind fun e3 =>
    (x.1.2.1).bind fun g4 =>
    (g4 n (x.1.1, e3, ())).bind fun y5 =>
    let c6 := (IntKind.wrap .i64 (x.1.2.2.2.2.1 + (1 : Int)))
    L ((y5, x.1.2.1, x.1.2.2.1, x.1.2.2.2.1, c6, ()), (()))
  else
  some ((x.1.1, ()), (()))
def pack_list_api_Ins.l0 (n m : Nat) (x : pack_list_api_Ins.l0.X) : Option pack_list_api_Ins.l0.Y := loop (pack_list_api_Ins.l0.step n) m x
def pack_list_api_Ins (n : Nat) (a0_b : (List Int)) (a1_l : (List T_api_Ins)) (a2_one : (Option (Nat → ((List Int) × (T_api_Ins × Unit)) → Option (List Int)))) : Option (List Int) :=
  (wire_Byte n a0_b (a1_l.length : Int)).bind fun y1 =>
  (pack_list_api_Ins.l0 n n ((y1, a2_one, a1_l, (a1_l.length : Int), (0 : Int), ()), (()))).bind fun y7 =>
  some y7.1.1
/-- shunter/code.Only -/
def code_Only (n : Nat) (a0_s : T_code_Step) : Option T_code_Push :=
  if (match a0_s with | .inl _ => true | .inr _ => false) then
  let c2 := (match a0_s with | .inl r1 => r1 | .inr _ => (((0 : Int), (0 : Int), (0 : Int), ()), ()))
  some c2
  else none
/-- shunter/pack.ins -/
def pack_ins.j1 (n : Nat) (y2 : (List Int)) (a1_x : T_api_Ins) (j69 : Bool) : Option (List Int) :=
  if j69 then
    (wire_Byte n y2 a1_x.2.1).bind fun y70 =>
    (wire_Byte n y70 a1_x.2.2.1).bind fun y71 =>
    some y71
  else
  if (a1_x.1 == (6 : Int)) then
    some y2
  else
  if (a1_x.1 == (7 : Int)) then
    some y2
  else
  (wire_Byte n y2 a1_x.2.1).bind fun y73 =>
  some y73
def pack_ins.j2 (n : Nat) (y1 : (T_code_Step × Int)) (y2 : (List Int)) (a1_x : T_api_Ins) (j20 : Bool) : Option (List Int) :=
  if j20 then
    some y2
  else
  let c28 := (match y1.1 with | .inl _ => ((0 : Int), (0 : Int), (0 : Int), ()) | .inr r21 => (match r21 with | .inl _ => ((0 : Int), (0 : Int), (0 : Int), ()) | .inr r22 => (match r22 with | .inl _ => ((0 : Int), (0 : Int), (0 : Int), ()) | .inr r23 => (match r23 with | .inl r24 => r24 | .inr _ => ((0 : Int), (0 : Int), (0 : Int), ())))))
  let c29 := (match y1.1 with | .inl _ => false | .inr r25 => (match r25 with | .inl _ => false | .inr r26 => (match r26 with | .inl _ => false | .inr r27 => (match r27 with | .inl _ => true | .inr _ => false))))
  let c39 := (match y1.1 with | .inl _ => ((0 : Int), (0 : Int), ()) | .inr r30 => (match r30 with | .inl _ => ((0 : Int), (0 : Int), ()) | .inr r31 => (match r31 with | .inl _ => ((0 : Int), (0 : Int), ()) | .inr r32 => (match r32 with | .inl _ => ((0 : Int), (0 : Int), ()) | .inr r33 => (match r33 with | .inl r34 => r34 | .inr _ => ((0 : Int), (0 : Int), ()))))))
  let c40 := (match y1.1 with | .inl _ => false | .inr r35 => (match r35 with | .inl _ => false | .inr r36 => (match r36 with | .inl _ => false | .inr r37 => (match r37 with | .inl _ => false | .inr r38 => (match r38 with | .inl _ => true | .inr _ => false)))))
  let c52 := (match y1.1 with | .inl _ => ((0 : Int), (0 : Int), (0 : Int), ()) | .inr r41 => (match r41 with | .inl _ => ((0 : Int), (0 : Int), (0 : Int), ()) | .inr r42 => (match r42 with | .inl _ => ((0 : Int), (0 : Int), (0 : Int), ()) | .inr r43 => (match r43 with | .inl _ => ((0 : Int), (0 : Int), (0 : Int), ()) | .inr r44 => (match r44 with | .inl _ => ((0 : Int), (0 : Int), (0 : Int), ()) | .inr r45 => (match r45 with | .inl r46 => r46 | .inr _ => ((0 : Int), (0 : Int), (0 : Int), ())))))))
  let c53 := (match y1.1 with | .inl _ => false | .inr r47 => (match r47 with | .inl _ => false | .inr r48 => (match r48 with | .inl _ => false | .inr r49 => (match r49 with | .inl _ => false | .inr r50 => (match r50 with | .inl _ => false | .inr r51 => (match r51 with | .inl _ => true | .inr _ => false))))))
  let c67 := (match y1.1 with | .inl _ => ((0 : Int), (0 : Int), ()) | .inr r54 => (match r54 with | .inl _ => ((0 : Int), (0 : Int), ()) | .inr r55 => (match r55 with | .inl _ => ((0 : Int), (0 : Int), ()) | .inr r56 => (match r56 with | .inl _ => ((0 : Int), (0 : Int), ()) | .inr r57 => (match r57 with | .inl _ => ((0 : Int), (0 : Int), ()) | .inr r58 => (match r58 with | .inl _ => ((0 : Int), (0 : Int), ()) | .inr r59 => (match r59 with | .inl r60 => r60 | .inr _ => ((0 : Int), (0 : Int), ()))))))))
  let c68 := (match y1.1 with | .inl _ => false | .inr r61 => (match r61 with | .inl _ => false | .inr r62 => (match r62 with | .inl _ => false | .inr r63 => (match r63 with | .inl _ => false | .inr r64 => (match r64 with | .inl _ => false | .inr r65 => (match r65 with | .inl _ => false | .inr r66 => (match r66 with | .inl _ => true | .inr _ => false)))))))
  if c53 then
    pack_ins.j1 n y2 a1_x true
  else
  if c40 then
    pack_ins.j1 n y2 a1_x true
  else
  if c29 then
    pack_ins.j1 n y2 a1_x true
  else
  pack_ins.j1 n y2 a1_x c68
def pack_ins (n : Nat) (a0_b : (List Int)) (a1_x : T_api_Ins) : Option (List Int) :=
  (code_Make n a1_x).bind fun y1 =>
  (wire_Byte n a0_b a1_x.1).bind fun y2 =>
  let c4 := (match y1.1 with | .inl r3 => r3 | .inr _ => (((0 : Int), (0 : Int), (0 : Int), ()), ()))
  let c5 := (match y1.1 with | .inl _ => true | .inr _ => false)
  if c5 then
    (code_Only n y1.1).bind fun y6 =>
    (wire_Vec n y2 y6.1).bind fun y7 =>
    some y7
  else
  let c11 := (match y1.1 with | .inl _ => ((0 : Int), ()) | .inr r8 => (match r8 with | .inl r9 => r9 | .inr _ => ((0 : Int), ())))
  let c12 := (match y1.1 with | .inl _ => false | .inr r10 => (match r10 with | .inl _ => true | .inr _ => false))
  let c18 := (match y1.1 with | .inl _ => () | .inr r13 => (match r13 with | .inl _ => () | .inr r14 => (match r14 with | .inl r15 => r15 | .inr _ => ())))
  let c19 := (match y1.1 with | .inl _ => false | .inr r16 => (match r16 with | .inl _ => false | .inr r17 => (match r17 with | .inl _ => true | .inr _ => false)))
  if c12 then
    pack_ins.j2 n y1 y2 a1_x true
  else
  pack_ins.j2 n y1 y2 a1_x c19
/-- shunter/pack.Code -/
def pack_Code (n : Nat) (a0_b : (List Int)) (a1_l : (List T_api_Ins)) : Option (List Int) :=
  (code_All n a1_l).bind fun y1 =>
  if (y1.2.2 != (0 : Int)) then
    (wire_Byte n a0_b (0 : Int)).bind fun y2 =>
    some y2
  else
  (pack_list_api_Ins n a0_b a1_l (some (fun n x => pack_ins n x.1 x.2.1))).bind fun y3 =>
  some y3
/-- shunter/wire.Numbers -/
abbrev wire_Numbers.l0.X := (((List Int) × Int × Int × Unit) × ((List Int) × Unit))
abbrev wire_Numbers.l0.Y := ((Unit) × ((List Int) × Unit))
def wire_Numbers.l0.step (n : Nat) (L : wire_Numbers.l0.X → Option wire_Numbers.l0.Y) (x : wire_Numbers.l0.X) : Option wire_Numbers.l0.Y :=
  let c4 := (decide (x.1.2.2.1 < x.1.2.1))
  if c4 then
    (AM.at? x.1.1 x.1.2.2.1).bind fun e5 =>
    let c6 := ([(IntKind.wrap .u8 e5)] : List Int)
    if decide (x.2.1.length + c6.length ≤ 140737488355328) then
    let c7 := (IntKind.wrap .i64 (x.1.2.2.1 + (1 : Int)))
    L ((x.1.1, x.1.2.1, c7, ()), ((x.2.1 ++ c6), ()))
    else none
  else
  some ((()), (x.2.1, ()))
def wire_Numbers.l0 (n m : Nat) (x : wire_Numbers.l0.X) : Option wire_Numbers.l0.Y := loop (wire_Numbers.l0.step n) m x
def wire_Numbers (n : Nat) (a0_b : (List Int)) (a1_l : (List Int)) : Option (List Int) :=
  let c1 := (decide ((a1_l.length : Int) > (255 : Int)))
  if c1 then
    (wire_put n a0_b (0 : Int) (1 : Int)).bind fun y2 =>
    some y2
  else
  (wire_put n a0_b (a1_l.length : Int) (1 : Int)).bind fun y3 =>
  (wire_Numbers.l0 n n ((a1_l, (a1_l.length : Int), (0 : Int), ()), (y3, ()))).bind fun y8 =>
  some y8.2.1
/-- shunter/pack.action -/
def pack_action (n : Nat) (a0_b : (List Int)) (a1_a : T_api_Action) : Option (List Int) :=
  (wire_Name n a0_b a1_a.1).bind fun y1 =>
  (wire_Numbers n y1 a1_a.2.1).bind fun y2 =>
  (pack_Code n y2 a1_a.2.2.1).bind fun y3 =>
  some y3
/-- shunter/pack.list[shunter/api.Table] -/
abbrev pack_list_api_Table.l0.X := (((List Int) × (Option (Nat → ((List Int) × (T_api_Table × Unit)) → Option (List Int))) × (List T_api_Table) × Int × Int × Unit) × (Unit))
abbrev pack_list_api_Table.l0.Y := (((List Int) × Unit) × (Unit))
def pack_list_api_Table.l0.step (n : Nat) (L : pack_list_api_Table.l0.X → Option pack_list_api_Table.l0.Y) (x : pack_list_api_Table.l0.X) : Option pack_list_api_Table.l0.Y :=
  let c2 := (decide (x.1.2.2.2.2.1 < x.1.2.2.2.1))
  if c2 then
    (AM.at? x.1.2.2.1 x.1.2.2.2.2.1).bind fun e3 =>
    (x.1.2.1).bind fun g4 =>
    (g4 n (x.1.1, e3, ())).bind fun y5 =>
    let c6 := (IntKind.wrap .i64 (x.1.2.2.2.2.1 + (1 : Int)))
    L ((y5, x.1.2.1, x.1.2.2.1, x.1.2.2.2.1, c6, ()), (()))
  else
  some ((x.1.1, ()), (()))
def pack_list_api_Table.l0 (n m : Nat) (x : pack_list_api_Table.l0.X) : Option pack_list_api_Table.l0.Y := loop (pack_list_api_Table.l0.step n) m x
def pack_list_api_Table (n : Nat) (a0_b : (List Int)) (a1_l : (List T_api_Table)) (a2_one : (Option (Nat → ((List Int) × (T_api_Table × Unit)) → Option (List Int)))) : Option (List Int) :=
  (wire_Byte n a0_b (a1_l.length : Int)).bind fun y1 =>
  (pack_list_api_Table.l0 n n ((y1, a2_one, a1_l, (a1_l.length : Int), (0 : Int), ()), (()))).bind fun y7 =>
  some y7.1.1
/-- shunter/wire.Vecs -/
abbrev wire_Vecs.l0.X := (((List T_api_Vec) × Int × Int × Unit) × ((List Int) × Unit))
abbrev wire_Vecs.l0.Y := ((Unit) × ((List Int) × Unit))
def wire_Vecs.l0.step (n : Nat) (L : wire_Vecs.l0.X → Option wire_Vecs.l0.Y) (x : wire_Vecs.l0.X) : Option wire_Vecs.l0.Y :=
  let c4 := (decide (x.1.2.2.1 < x.1.2.1))
  if c4 then
    (AM.at? x.1.1 x.1.2.2.1).bind fun e5 =>
    (wire_Vec n x.2.1 e5).bind fun y6 =>
    let c7 := (IntKind.wrap .i64 (x.1.2.2.1 + (1 : Int)))
    L ((x.1.1, x.1.2.1, c7, ()), (y6, ()))
  else
  some ((()), (x.2.1, ()))
def wire_Vecs.l0 (n m : Nat) (x : wire_Vecs.l0.X) : Option wire_Vecs.l0.Y := loop (wire_Vecs.l0.step n) m x
def wire_Vecs (n : Nat) (a0_b : (List Int)) (a1_l : (List T_api_Vec)) : Option (List Int) :=
  let c1 := (decide ((a1_l.length : Int) > (255 : Int)))
  if c1 then
    (wire_put n a0_b (0 : Int) (1 : Int)).bind fun y2 =>
    some y2
  else
  (wire_put n a0_b (a1_l.length : Int) (1 : Int)).bind fun y3 =>
  (wire_Vecs.l0 n n ((a1_l, (a1_l.length : Int), (0 : Int), ()), (y3, ()))).bind fun y8 =>
  some y8.2.1
/-- shunter/pack.table -/
def pack_table (n : Nat) (a0_b : (List Int)) (a1_t : T_api_Table) : Option (List Int) :=
  (wire_Name n a0_b a1_t.1).bind fun y1 =>
  (wire_Byte n y1 a1_t.2.1).bind fun y2 =>
  (pack_list_api_Key n y2 a1_t.2.2.1 (some (fun n x => pack_key n x.1 x.2.1))).bind fun y3 =>
  (wire_Numbers n y3 a1_t.2.2.2.1).bind fun y4 =>
  (wire_Byte n y4 a1_t.2.2.2.2.1.1).bind fun y5 =>
  (wire_Vecs n y5 a1_t.2.2.2.2.1.2.1).bind fun y6 =>
  (wire_Two n y6 a1_t.2.2.2.2.2.1).bind fun y7 =>
  some y7
/-- shunter/pack.list[shunter/api.Node] -/
abbrev pack_list_api_Node.l0.X := (((List Int) × (Option (Nat → ((List Int) × (T_api_Node × Unit)) → Option (List Int))) × (List T_api_Node) × Int × Int × Unit) × (Unit))
abbrev pack_list_api_Node.l0.Y := (((List Int) × Unit) × (Unit))
def pack_list_api_Node.l0.step (n : Nat) (L : pack_list_api_Node.l0.X → Option pack_list_api_Node.l0.Y) (x : pack_list_api_Node.l0.X) : Option pack_list_api_Node.l0.Y :=
  let c2 := (decide (x.1.2.2.2.2.1 < x.1.2.2.2.1))
  if c2 then
    (AM.at? x.1.2.2.1 x.1.2.2.2.2.1).bind fun e3 =>
    (x.1.2.1).bind fun g4 =>
    (g4 n (x.1.1, e3, ())).bind fun y5 =>
    let c6 := (IntKind.wrap .i64 (x.1.2.2.2.2.1 + (1 : Int)))
    L ((y5, x.1.2.1, x.1.2.2.1, x.1.2.2.2.1, c6, ()), (()))
  else
  some ((x.1.1, ()), (()))
def pack_list_api_Node.l0 (n m : Nat) (x : pack_list_api_Node.l0.X) : Option pack_list_api_Node.l0.Y := loop (pack_list_api_Node.l0.step n) m x
def pack_list_api_Node (n : Nat) (a0_b : (List Int)) (a1_l : (List T_api_Node)) (a2_one : (Option (Nat → ((List Int) × (T_api_Node × Unit)) → Option (List Int)))) : Option (List Int) :=
  (wire_Byte n a0_b (a1_l.length : Int)).bind fun y1 =>
  (pack_list_api_Node.l0 n n ((y1, a2_one, a1_l, (a1_l.length : Int), (0 : Int), ()), (()))).bind fun y7 =>
  some y7.1.1
/-- shunter/pack.node -/
def pack_node.j1 (n : Nat) (a1_x : T_api_Node) (j7 : (List Int)) : Option (List Int) :=
  (wire_Byte n j7 a1_x.2.2.2.2.1).bind fun y8 =>
  (wire_Byte n y8 a1_x.2.2.2.2.2.1).bind fun y9 =>
  some y9
def pack_node (n : Nat) (a0_b : (List Int)) (a1_x : T_api_Node) : Option (List Int) :=
  (wire_Byte n a0_b a1_x.1).bind fun y1 =>
  if (a1_x.1 == (1 : Int)) then
    (pack_Code n y1 a1_x.2.2.1).bind fun y2 =>
    pack_node.j1 n a1_x y2
  else
  if (a1_x.1 == (2 : Int)) then
    (wire_Byte n y1 a1_x.2.1).bind fun y3 =>
    (wire_Vecs n y3 a1_x.2.2.2.1).bind fun y4 =>
    (wire_Byte n y4 a1_x.2.2.2.2.1).bind fun y5 =>
    some y5
  else
  (wire_Byte n y1 a1_x.2.1).bind fun y6 =>
  pack_node.j1 n a1_x y6
/-- shunter/pack.list[shunter/api.Sum] -/
abbrev pack_list_api_Sum.l0.X := (((List Int) × (Option (Nat → ((List Int) × (T_api_Sum × Unit)) → Option (List Int))) × (List T_api_Sum) × Int × Int × Unit) × (Unit))
abbrev pack_list_api_Sum.l0.Y := (((List Int) × Unit) × (Unit))
def pack_list_api_Sum.l0.step (n : Nat) (L : pack_list_api_Sum.l0.X → Option pack_list_api_Sum.l0.Y) (x : pack_list_api_Sum.l0.X) : Option pack_list_api_Sum.l0.Y :=
  let c2 := (decide (x.1.2.2.2.2.1 < x.1.2.2.2.1))
  if c2 then
    (AM.at? x.1.2.2.1 x.1.2.2.2.2.1).bind fun e3 =>
    (x.1.2.1).bind fun g4 =>
    (g4 n (x.1.1, e3, ())).bind fun y5 =>
    let c6 := (IntKind.wrap .i64 (x.1.2.2.2.2.1 + (1 : Int)))
    L ((y5, x.1.2.1, x.1.2.2.1, x.1.2.2.2.1, c6, ()), (()))
  else
  some ((x.1.1, ()), (()))
def pack_list_api_Sum.l0 (n m : Nat) (x : pack_list_api_Sum.l0.X) : Option pack_list_api_Sum.l0.Y := loop (pack_list_api_Sum.l0.step n) m x
def pack_list_api_Sum (n : Nat) (a0_b : (List Int)) (a1_l : (List T_api_Sum)) (a2_one : (Option (Nat → ((List Int) × (T_api_Sum × Unit)) → Option (List Int)))) : Option (List Int) :=
  (wire_Byte n a0_b (a1_l.length : Int)).bind fun y1 =>
  (pack_list_api_Sum.l0 n n ((y1, a2_one, a1_l, (a1_l.length : Int), (0 : Int), ()), (()))).bind fun y7 =>
  some y7.1.1
/-- shunter/pack.sum -/
def pack_sum (n : Nat) (a0_b : (List Int)) (a1_s : T_api_Sum) : Option (List Int) :=
  (wire_Byte n a0_b a1_s.1).bind fun y1 =>
  (wire_Byte n y1 a1_s.2.1).bind fun y2 =>
  some y2
/-- shunter/pack.list[shunter/api.Reg] -/
abbrev pack_list_api_Reg.l0.X := (((List Int) × (Option (Nat → ((List Int) × (T_api_Inst × Unit)) → Option (List Int))) × (List T_api_Inst) × Int × Int × Unit) × (Unit))
abbrev pack_list_api_Reg.l0.Y := (((List Int) × Unit) × (Unit))
def pack_list_api_Reg.l0.step (n : Nat) (L : pack_list_api_Reg.l0.X → Option pack_list_api_Reg.l0.Y) (x : pack_list_api_Reg.l0.X) : Option pack_list_api_Reg.l0.Y :=
  let c2 := (decide (x.1.2.2.2.2.1 < x.1.2.2.2.1))
  if c2 then
    (AM.at? x.1.2.2.1 x.1.2.2.2.2.1).bind fun e3 =>
    (x.1.2.1).bind fun g4 =>
    (g4 n (x.1.1, e3, ())).bind fun y5 =>
    let c6 := (IntKind.wrap .i64 (x.1.2.2.2.2.1 + (1 : Int)))
    L ((y5, x.1.2.1, x.1.2.2.1, x.1.2.2.2.1, c6, ()), (()))
  else
  some ((x.1.1, ()), (()))
def pack_list_api_Reg.l0 (n m : Nat) (x : pack_list_api_Reg.l0.X) : Option pack_list_api_Reg.l0.Y := loop (pack_list_api_Reg.l0.step n) m x
def pack_list_api_Reg (n : Nat) (a0_b : (List Int)) (a1_l : (List T_api_Inst)) (a2_one : (Option (Nat → ((List Int) × (T_api_Inst × Unit)) → Option (List Int)))) : Option (List Int) :=
  (wire_Byte n a0_b (a1_l.length : Int)).bind fun y1 =>
  (pack_list_api_Reg.l0 n n ((y1, a2_one, a1_l, (a1_l.length : Int), (0 : Int), ()), (()))).bind fun y7 =>
  some y7.1.1
/-- shunter/pack.reg -/
def pack_reg (n : Nat) (a0_b : (List Int)) (a1_r : T_api_Inst) : Option (List Int) :=
  (wire_Name n a0_b a1_r.1).bind fun y1 =>
  (wire_Byte n y1 a1_r.2.1).bind fun y2 =>
  (wire_Byte n y2 a1_r.2.2.1).bind fun y3 =>
  some y3
/-- shunter/pack.list[shunter/api.Counter] -/
abbrev pack_list_api_Counter.l0.X := (((List Int) × (Option (Nat → ((List Int) × (T_api_Field × Unit)) → Option (List Int))) × (List T_api_Field) × Int × Int × Unit) × (Unit))
abbrev pack_list_api_Counter.l0.Y := (((List Int) × Unit) × (Unit))
def pack_list_api_Counter.l0.step (n : Nat) (L : pack_list_api_Counter.l0.X → Option pack_list_api_Counter.l0.Y) (x : pack_list_api_Counter.l0.X) : Option pack_list_api_Counter.l0.Y :=
  let c2 := (decide (x.1.2.2.2.2.1 < x.1.2.2.2.1))
  if c2 then
    (AM.at? x.1.2.2.1 x.1.2.2.2.2.1).bind fun e3 =>
    (x.1.2.1).bind fun g4 =>
    (g4 n (x.1.1, e3, ())).bind fun y5 =>
    let c6 := (IntKind.wrap .i64 (x.1.2.2.2.2.1 + (1 : Int)))
    L ((y5, x.1.2.1, x.1.2.2.1, x.1.2.2.2.1, c6, ()), (()))
  else
  some ((x.1.1, ()), (()))
def pack_list_api_Counter.l0 (n m : Nat) (x : pack_list_api_Counter.l0.X) : Option pack_list_api_Counter.l0.Y := loop (pack_list_api_Counter.l0.step n) m x
def pack_list_api_Counter (n : Nat) (a0_b : (List Int)) (a1_l : (List T_api_Field)) (a2_one : (Option (Nat → ((List Int) × (T_api_Field × Unit)) → Option (List Int)))) : Option (List Int) :=
  (wire_Byte n a0_b (a1_l.length : Int)).bind fun y1 =>
  (pack_list_api_Counter.l0 n n ((y1, a2_one, a1_l, (a1_l.length : Int), (0 : Int), ()), (()))).bind fun y7 =>
  some y7.1.1
/-- shunter/pack.counter -/
def pack_counter (n : Nat) (a0_b : (List Int)) (a1_c : T_api_Field) : Option (List Int) :=
  (wire_Name n a0_b a1_c.1).bind fun y1 =>
  (wire_Byte n y1 a1_c.2.1).bind fun y2 =>
  some y2
/-- shunter/pack.list[shunter/api.Meter] -/
abbrev pack_list_api_Meter.l0.X := (((List Int) × (Option (Nat → ((List Int) × (T_api_Meter × Unit)) → Option (List Int))) × (List T_api_Meter) × Int × Int × Unit) × (Unit))
abbrev pack_list_api_Meter.l0.Y := (((List Int) × Unit) × (Unit))
def pack_list_api_Meter.l0.step (n : Nat) (L : pack_list_api_Meter.l0.X → Option pack_list_api_Meter.l0.Y) (x : pack_list_api_Meter.l0.X) : Option pack_list_api_Meter.l0.Y :=
  let c2 := (decide (x.1.2.2.2.2.1 < x.1.2.2.2.1))
  if c2 then
    (AM.at? x.1.2.2.1 x.1.2.2.2.2.1).bind fun e3 =>
    (x.1.2.1).bind fun g4 =>
    (g4 n (x.1.1, e3, ())).bind fun y5 =>
    let c6 := (IntKind.wrap .i64 (x.1.2.2.2.2.1 + (1 : Int)))
    L ((y5, x.1.2.1, x.1.2.2.1, x.1.2.2.2.1, c6, ()), (()))
  else
  some ((x.1.1, ()), (()))
def pack_list_api_Meter.l0 (n m : Nat) (x : pack_list_api_Meter.l0.X) : Option pack_list_api_Meter.l0.Y := loop (pack_list_api_Meter.l0.step n) m x
def pack_list_api_Meter (n : Nat) (a0_b : (List Int)) (a1_l : (List T_api_Meter)) (a2_one : (Option (Nat → ((List Int) × (T_api_Meter × Unit)) → Option (List Int)))) : Option (List Int) :=
  (wire_Byte n a0_b (a1_l.length : Int)).bind fun y1 =>
  (pack_list_api_Meter.l0 n n ((y1, a2_one, a1_l, (a1_l.length : Int), (0 : Int), ()), (()))).bind fun y7 =>
  some y7.1.1
/-- shunter/wire.Four -/
def wire_Four (n : Nat) (a0_b : (List Int)) (a1_n : Int) : Option (List Int) :=
  (wire_put n a0_b a1_n (4 : Int)).bind fun y1 =>
  some y1
/-- shunter/pack.meter -/
def pack_meter (n : Nat) (a0_b : (List Int)) (a1_x : T_api_Meter) : Option (List Int) :=
  (wire_Name n a0_b a1_x.1).bind fun y1 =>
  (wire_Byte n y1 a1_x.2.1).bind fun y2 =>
  (wire_Two n y2 a1_x.2.2.1).bind fun y3 =>
  (wire_Four n y3 a1_x.2.2.2.1).bind fun y4 =>
  some y4
/-- shunter/pack.section -/
def pack_section (n : Nat) (a0_m : T_api_Image) (a1_part : Int) : Option (List Int) :=
  if (a1_part == (0 : Int)) then
    (wire_Name n ([] : List Int) a0_m.1).bind fun y1 =>
    (wire_Byte n y1 a0_m.2.2.2.2.2.2.2.2.2.2.2.2.2.2.2.1).bind fun y2 =>
    (wire_Byte n y2 a0_m.2.2.2.2.2.2.2.2.2.2.2.2.2.2.2.2.1).bind fun y3 =>
    (wire_Byte n y3 a0_m.2.2.2.2.2.2.2.2.2.2.2.2.2.2.2.2.2.1).bind fun y4 =>
    some y4
  else
  if (a1_part == (1 : Int)) then
    (pack_list_api_Header n ([] : List Int) a0_m.2.1 (some (fun n x => pack_header n x.1 x.2.1))).bind fun y5 =>
    some y5
  else
  if (a1_part == (2 : Int)) then
    (pack_list_api_Inst n ([] : List Int) a0_m.2.2.1 (some (fun n x => pack_inst n x.1 x.2.1))).bind fun y6 =>
    some y6
  else
  if (a1_part == (3 : Int)) then
    (pack_list_api_Field n ([] : List Int) a0_m.2.2.2.1 (some (fun n x => pack_field n x.1 x.2.1))).bind fun y7 =>
    some y7
  else
  if (a1_part == (4 : Int)) then
    (pack_list_api_State n ([] : List Int) a0_m.2.2.2.2.1 (some (fun n x => pack_state n x.1 x.2.1))).bind fun y8 =>
    some y8
  else
  if (a1_part == (5 : Int)) then
    (pack_list_api_Action n ([] : List Int) a0_m.2.2.2.2.2.1 (some (fun n x => pack_action n x.1 x.2.1))).bind fun y9 =>
    some y9
  else
  if (a1_part == (6 : Int)) then
    (pack_list_api_Table n ([] : List Int) a0_m.2.2.2.2.2.2.1 (some (fun n x => pack_table n x.1 x.2.1))).bind fun y10 =>
    some y10
  else
  if (a1_part == (7 : Int)) then
    (pack_list_api_Node n ([] : List Int) a0_m.2.2.2.2.2.2.2.1 (some (fun n x => pack_node n x.1 x.2.1))).bind fun y11 =>
    some y11
  else
  if (a1_part == (8 : Int)) then
    (pack_list_api_Node n ([] : List Int) a0_m.2.2.2.2.2.2.2.2.1 (some (fun n x => pack_node n x.1 x.2.1))).bind fun y12 =>
    some y12
  else
  if (a1_part == (9 : Int)) then
    (wire_Numbers n ([] : List Int) a0_m.2.2.2.2.2.2.2.2.2.1).bind fun y13 =>
    some y13
  else
  if (a1_part == (10 : Int)) then
    (pack_list_api_Sum n ([] : List Int) a0_m.2.2.2.2.2.2.2.2.2.2.1 (some (fun n x => pack_sum n x.1 x.2.1))).bind fun y14 =>
    some y14
  else
  if (a1_part == (11 : Int)) then
    (pack_list_api_Sum n ([] : List Int) a0_m.2.2.2.2.2.2.2.2.2.2.2.1 (some (fun n x => pack_sum n x.1 x.2.1))).bind fun y15 =>
    some y15
  else
  if (a1_part == (12 : Int)) then
    (pack_list_api_Reg n ([] : List Int) a0_m.2.2.2.2.2.2.2.2.2.2.2.2.1 (some (fun n x => pack_reg n x.1 x.2.1))).bind fun y16 =>
    some y16
  else
  if (a1_part == (13 : Int)) then
    (pack_list_api_Counter n ([] : List Int) a0_m.2.2.2.2.2.2.2.2.2.2.2.2.2.1 (some (fun n x => pack_counter n x.1 x.2.1))).bind fun y17 =>
    some y17
  else
  (pack_list_api_Meter n ([] : List Int) a0_m.2.2.2.2.2.2.2.2.2.2.2.2.2.2.1 (some (fun n x => pack_meter n x.1 x.2.1))).bind fun y18 =>
  some y18
/-- shunter/pack.Section -/
def pack_Section (n : Nat) (a0_m : T_api_Image) (a1_part : Int) : Option ((List Int) × Int) :=
  (image_Check n a0_m).bind fun y1 =>
  let c3 := (!(match y1 with | .inl _ => false | .inr r2 => true))
  if c3 then
    some (([] : List Int), (1 : Int))
  else
  let c4 := (decide (a1_part < (0 : Int)))
  if c4 then
    some (([] : List Int), (5 : Int))
  else
  let c5 := (decide (a1_part ≥ (15 : Int)))
  if c5 then
    some (([] : List Int), (5 : Int))
  else
  (pack_section n a0_m a1_part).bind fun y7 =>
  some (y7, (0 : Int))
/-- shunter/shunterlaw11.least -/
def shunterlaw11_least (n : Nat) : Option T_api_Image :=
  let c1 := ([((⟨#[115]⟩ : ByteArray), ([] : List T_api_Sum), ([] : List T_image_Flaw), ([] : List T_api_Case), (-1 : Int), ())] : List T_api_State)
  some ((⟨#[109]⟩ : ByteArray), ([] : List T_api_Header), ([] : List T_api_Inst), ([] : List T_api_Field), c1, ([] : List T_api_Action), ([] : List T_api_Table), ([] : List T_api_Node), ([] : List T_api_Node), ([] : List Int), ([] : List T_api_Sum), ([] : List T_api_Sum), ([] : List T_api_Inst), ([] : List T_api_Field), ([] : List T_api_Meter), (1 : Int), (1 : Int), (0 : Int), ())
/-- shunter/shunterlaw11.lives -/
def shunterlaw11_lives (n : Nat) : Option Bool :=
  (shunterlaw11_least n).bind fun y1 =>
  let c2 := ([((⟨#[97]⟩ : ByteArray), (8 : Int), ())] : List T_api_Field)
  let c3 := ([((⟨#[104]⟩ : ByteArray), c2, (0 : Int), (0 : Int), (0 : Int), (0 : Int), ())] : List T_api_Header)
  let c4 := ([((⟨#[120]⟩ : ByteArray), (0 : Int), (0 : Int), ()), ((⟨#[121]⟩ : ByteArray), (0 : Int), (0 : Int), ())] : List T_api_Inst)
  let c5 := ([(0 : Int), (1 : Int)] : List Int)
  (pack_Section n (y1.1, c3, c4, y1.2.2.2.1, y1.2.2.2.2.1, y1.2.2.2.2.2.1, y1.2.2.2.2.2.2.1, y1.2.2.2.2.2.2.2.1, y1.2.2.2.2.2.2.2.2.1, c5, y1.2.2.2.2.2.2.2.2.2.2.1, y1.2.2.2.2.2.2.2.2.2.2.2.1, y1.2.2.2.2.2.2.2.2.2.2.2.2.1, y1.2.2.2.2.2.2.2.2.2.2.2.2.2.1, y1.2.2.2.2.2.2.2.2.2.2.2.2.2.2.1, y1.2.2.2.2.2.2.2.2.2.2.2.2.2.2.2.1, y1.2.2.2.2.2.2.2.2.2.2.2.2.2.2.2.2.1, y1.2.2.2.2.2.2.2.2.2.2.2.2.2.2.2.2.2.1, ()) (9 : Int)).bind fun y6 =>
  if (y6.2 == (0 : Int)) then
    let c7 := ((AM.strOf y6.1).toList == (⟨#[2, 0, 1]⟩ : ByteArray).toList)
    some c7
  else
  some false
/-- shunter/shunterref09.Table -/
def shunterref09_Table (n : Nat) : Option (List T_shunterref09_Row) :=
  let c1 := ([((⟨#[112, 117, 115, 104]⟩ : ByteArray), (0 : Int), (1 : Int), (0 : Int), (List.replicate 2 (0 : Int)), (List.replicate 2 (0 : Int)), (⟨#[80, 117, 115, 104]⟩ : ByteArray), ()), ((⟨#[102, 105, 101, 108, 100]⟩ : ByteArray), (0 : Int), (1 : Int), (2 : Int), [(0 : Int), (31 : Int)], [(0 : Int), (15 : Int)], (⟨#[80, 108, 97, 99, 101]⟩ : ByteArray), ()), ((⟨#[109, 101, 116, 97]⟩ : ByteArray), (0 : Int), (1 : Int), (1 : Int), [(0 : Int), (23 : Int)], [(0 : Int), (0 : Int)], (⟨#[67, 101, 108, 108]⟩ : ByteArray), ()), ((⟨#[112, 97, 114, 97, 109]⟩ : ByteArray), (0 : Int), (1 : Int), (1 : Int), [(0 : Int), (7 : Int)], [(0 : Int), (0 : Int)], (⟨#[67, 101, 108, 108]⟩ : ByteArray), ()), ((⟨#[118, 97, 108, 105, 100]⟩ : ByteArray), (0 : Int), (1 : Int), (1 : Int), [(0 : Int), (31 : Int)], [(0 : Int), (0 : Int)], (⟨#[83, 108, 111, 116]⟩ : ByteArray), ()), ((⟨#[114, 101, 103]⟩ : ByteArray), (1 : Int), (1 : Int), (1 : Int), [(0 : Int), (7 : Int)], [(0 : Int), (0 : Int)], (⟨#[67, 101, 108, 108]⟩ : ByteArray), ()), ((⟨#[110, 111, 116]⟩ : ByteArray), (1 : Int), (1 : Int), (0 : Int), (List.replicate 2 (0 : Int)), (List.replicate 2 (0 : Int)), (⟨#[79, 110, 101]⟩ : ByteArray), ()), ((⟨#[110, 101, 103]⟩ : ByteArray), (1 : Int), (1 : Int), (0 : Int), (List.replicate 2 (0 : Int)), (List.replicate 2 (0 : Int)), (⟨#[79, 110, 101]⟩ : ByteArray), ()), ((⟨#[115, 104, 108]⟩ : ByteArray), (1 : Int), (1 : Int), (1 : Int), [(0 : Int), (128 : Int)], [(0 : Int), (0 : Int)], (⟨#[79, 110, 101]⟩ : ByteArray), ()), ((⟨#[115, 104, 114]⟩ : ByteArray), (1 : Int), (1 : Int), (1 : Int), [(0 : Int), (128 : Int)], [(0 : Int), (0 : Int)], (⟨#[79, 110, 101]⟩ : ByteArray), ()), ((⟨#[115, 108, 105, 99, 101]⟩ : ByteArray), (1 : Int), (1 : Int), (2 : Int), [(0 : Int), (127 : Int)], [(0 : Int), (127 : Int)], (⟨#[80, 97, 114, 116]⟩ : ByteArray), ()), ((⟨#[99, 97, 115, 116]⟩ : ByteArray), (1 : Int), (1 : Int), (1 : Int), [(1 : Int), (128 : Int)], [(0 : Int), (0 : Int)], (⟨#[79, 110, 101]⟩ : ByteArray), ()), ((⟨#[97, 100, 100]⟩ : ByteArray), (2 : Int), (1 : Int), (0 : Int), (List.replicate 2 (0 : Int)), (List.replicate 2 (0 : Int)), (⟨#[84, 119, 111]⟩ : ByteArray), ()), ((⟨#[115, 117, 98]⟩ : ByteArray), (2 : Int), (1 : Int), (0 : Int), (List.replicate 2 (0 : Int)), (List.replicate 2 (0 : Int)), (⟨#[84, 119, 111]⟩ : ByteArray), ()), ((⟨#[97, 100, 100, 45, 115, 97, 116]⟩ : ByteArray), (2 : Int), (1 : Int), (0 : Int), (List.replicate 2 (0 : Int)), (List.replicate 2 (0 : Int)), (⟨#[84, 119, 111]⟩ : ByteArray), ()), ((⟨#[115, 117, 98, 45, 115, 97, 116]⟩ : ByteArray), (2 : Int), (1 : Int), (0 : Int), (List.replicate 2 (0 : Int)), (List.replicate 2 (0 : Int)), (⟨#[84, 119, 111]⟩ : ByteArray), ()), ((⟨#[97, 110, 100]⟩ : ByteArray), (2 : Int), (1 : Int), (0 : Int), (List.replicate 2 (0 : Int)), (List.replicate 2 (0 : Int)), (⟨#[84, 119, 111]⟩ : ByteArray), ()), ((⟨#[111, 114]⟩ : ByteArray), (2 : Int), (1 : Int), (0 : Int), (List.replicate 2 (0 : Int)), (List.replicate 2 (0 : Int)), (⟨#[84, 119, 111]⟩ : ByteArray), ()), ((⟨#[120, 111, 114]⟩ : ByteArray), (2 : Int), (1 : Int), (0 : Int), (List.replicate 2 (0 : Int)), (List.replicate 2 (0 : Int)), (⟨#[84, 119, 111]⟩ : ByteArray), ()), ((⟨#[99, 97, 116]⟩ : ByteArray), (2 : Int), (1 : Int), (0 : Int), (List.replicate 2 (0 : Int)), (List.replicate 2 (0 : Int)), (⟨#[84, 119, 111]⟩ : ByteArray), ()), ((⟨#[101, 113]⟩ : ByteArray), (2 : Int), (1 : Int), (0 : Int), (List.replicate 2 (0 : Int)), (List.replicate 2 (0 : Int)), (⟨#[84, 119, 111]⟩ : ByteArray), ()), ((⟨#[108, 101, 115, 115]⟩ : ByteArray), (2 : Int), (1 : Int), (0 : Int), (List.replicate 2 (0 : Int)), (List.replicate 2 (0 : Int)), (⟨#[84, 119, 111]⟩ : ByteArray), ()), ((⟨#[112, 117, 116, 45, 102, 105, 101, 108, 100]⟩ : ByteArray), (1 : Int), (0 : Int), (2 : Int), [(0 : Int), (31 : Int)], [(0 : Int), (15 : Int)], (⟨#[80, 108, 97, 99, 101]⟩ : ByteArray), ()), ((⟨#[112, 117, 116, 45, 109, 101, 116, 97]⟩ : ByteArray), (1 : Int), (0 : Int), (1 : Int), [(0 : Int), (23 : Int)], [(0 : Int), (0 : Int)], (⟨#[67, 101, 108, 108]⟩ : ByteArray), ()), ((⟨#[112, 117, 116, 45, 114, 101, 103]⟩ : ByteArray), (2 : Int), (0 : Int), (1 : Int), [(0 : Int), (7 : Int)], [(0 : Int), (0 : Int)], (⟨#[67, 101, 108, 108]⟩ : ByteArray), ()), ((⟨#[115, 104, 111, 119]⟩ : ByteArray), (0 : Int), (0 : Int), (1 : Int), [(0 : Int), (31 : Int)], [(0 : Int), (0 : Int)], (⟨#[83, 108, 111, 116]⟩ : ByteArray), ()), ((⟨#[104, 105, 100, 101]⟩ : ByteArray), (0 : Int), (0 : Int), (1 : Int), [(0 : Int), (31 : Int)], [(0 : Int), (0 : Int)], (⟨#[83, 108, 111, 116]⟩ : ByteArray), ()), ((⟨#[112, 117, 115, 104, 45, 104, 101, 97, 100]⟩ : ByteArray), (0 : Int), (0 : Int), (2 : Int), [(0 : Int), (15 : Int)], [(1 : Int), (4 : Int)], (⟨#[72, 101, 97, 100, 115]⟩ : ByteArray), ()), ((⟨#[112, 111, 112, 45, 104, 101, 97, 100]⟩ : ByteArray), (0 : Int), (0 : Int), (2 : Int), [(0 : Int), (15 : Int)], [(1 : Int), (4 : Int)], (⟨#[72, 101, 97, 100, 115]⟩ : ByteArray), ()), ((⟨#[99, 111, 117, 110, 116]⟩ : ByteArray), (1 : Int), (0 : Int), (1 : Int), [(0 : Int), (7 : Int)], [(0 : Int), (0 : Int)], (⟨#[67, 101, 108, 108]⟩ : ByteArray), ()), ((⟨#[109, 101, 116, 101, 114]⟩ : ByteArray), (1 : Int), (1 : Int), (1 : Int), [(0 : Int), (7 : Int)], [(0 : Int), (0 : Int)], (⟨#[67, 101, 108, 108]⟩ : ByteArray), ()), ((⟨#[106, 117, 109, 112]⟩ : ByteArray), (0 : Int), (0 : Int), (1 : Int), [(0 : Int), (64 : Int)], [(0 : Int), (0 : Int)], (⟨#[74, 117, 109, 112]⟩ : ByteArray), ()), ((⟨#[106, 117, 109, 112, 45, 122, 101, 114, 111]⟩ : ByteArray), (1 : Int), (0 : Int), (1 : Int), [(0 : Int), (64 : Int)], [(0 : Int), (0 : Int)], (⟨#[74, 117, 109, 112]⟩ : ByteArray), ()), ((⟨#[106, 117, 109, 112, 45, 103, 111, 110, 101]⟩ : ByteArray), (0 : Int), (0 : Int), (2 : Int), [(0 : Int), (31 : Int)], [(0 : Int), (64 : Int)], (⟨#[71, 111, 110, 101]⟩ : ByteArray), ()), ((⟨#[115, 116, 111, 112]⟩ : ByteArray), (0 : Int), (0 : Int), (0 : Int), (List.replicate 2 (0 : Int)), (List.replicate 2 (0 : Int)), (⟨#[83, 116, 111, 112]⟩ : ByteArray), ())] : List T_shunterref09_Row)
  some c1
/-- shunter/shunterref01.Len -/
abbrev shunterref01_Len.l0.X := ((Int × Unit) × (((List Bool) × Unit) × Unit))
abbrev shunterref01_Len.l0.Y := ((Unit) × (Unit)) ⊕ ((Int × Unit) × (Unit))
def shunterref01_Len.l0.step (n : Nat) (L : shunterref01_Len.l0.X → Option shunterref01_Len.l0.Y) (x : shunterref01_Len.l0.X) : Option shunterref01_Len.l0.Y :=
  if (decide (x.1.1 ≥ (0 : Int))) then
    if (decide (0 ≤ x.1.1) && decide (x.1.1 < 128)) then
    (x.2.1.1[x.1.1.toNat]?).bind fun e1 =>
    if e1 then
      let c2 := (IntKind.wrap .i64 (x.1.1 + (1 : Int)))
      some (Sum.inr ((c2, ()), (())))
    else
    let c3 := (IntKind.wrap .i64 (x.1.1 - (1 : Int)))
    L ((c3, ()), ((x.2.1.1, ()), ()))
    else none
  else
  some (Sum.inl ((()), (())))
def shunterref01_Len.l0 (n m : Nat) (x : shunterref01_Len.l0.X) : Option shunterref01_Len.l0.Y := loop (shunterref01_Len.l0.step n) m x
def shunterref01_Len (n : Nat) (a0_a : (List Bool)) : Option Int :=
  (shunterref01_Len.l0 n n (((127 : Int), ()), ((a0_a, ()), ()))).bind fun y4 =>
  sumE y4 (fun a5 =>
    some (0 : Int))
    (fun b6 =>
    some b6.1.1)
/-- shunter/shunterref01.Of -/
abbrev shunterref01_Of.l0.X := ((Int × Int × Int × Unit) × (((List Bool) × Unit) × ((List Bool) × Unit) × Unit))
abbrev shunterref01_Of.l0.Y := ((Unit) × (((List Bool) × Unit) × ((List Bool) × Unit) × Unit))
def shunterref01_Of.l0.step (n : Nat) (L : shunterref01_Of.l0.X → Option shunterref01_Of.l0.Y) (x : shunterref01_Of.l0.X) : Option shunterref01_Of.l0.Y :=
  let c1 := (decide (x.1.2.2.1 < (64 : Int)))
  if c1 then
    let c2 := ((x.1.2.1.tmod (2 : Int)) == (1 : Int))
    if (decide (0 ≤ x.1.2.2.1) && decide (x.1.2.2.1 < 128)) then
    (x.2.2.1.1[x.1.2.2.1.toNat]?).bind fun e3 =>
    let c4 := (IntKind.wrap .i64 (x.1.2.2.1 + (64 : Int)))
    let c5 := ((x.1.1.tmod (2 : Int)) == (1 : Int))
    if (decide (0 ≤ c4) && decide (c4 < 128)) then
    ((List.set x.2.2.1.1 x.1.2.2.1.toNat c2)[c4.toNat]?).bind fun e6 =>
    let c7 := (IntKind.wrap .u64 (x.1.2.1.tdiv (2 : Int)))
    let c8 := (IntKind.wrap .u64 (x.1.1.tdiv (2 : Int)))
    let c9 := (IntKind.wrap .i64 (x.1.2.2.1 + (1 : Int)))
    L ((c8, c7, c9, ()), ((x.2.1.1, ()), ((List.set (List.set x.2.2.1.1 x.1.2.2.1.toNat c2) c4.toNat c5), ()), ()))
    else none
    else none
  else
  some ((()), ((x.2.1.1, ()), (x.2.2.1.1, ()), ()))
def shunterref01_Of.l0 (n m : Nat) (x : shunterref01_Of.l0.X) : Option shunterref01_Of.l0.Y := loop (shunterref01_Of.l0.step n) m x
def shunterref01_Of (n : Nat) (a0_hi : Int) (a1_lo : Int) : Option (List Bool) :=
  (shunterref01_Of.l0 n n ((a0_hi, a1_lo, (0 : Int), ()), (((List.replicate 128 false), ()), ((List.replicate 128 false), ()), ()))).bind fun y10 =>
  some y10.2.2.1.1
/-- shunter/shunterref02.May -/
def shunterref02_May (n : Nat) (a0_v : T_api_Vec) : Option Bool :=
  let c1 := (decide (a0_v.1 ≥ (1 : Int)))
  if c1 then
    let c2 := (decide (a0_v.1 ≤ (128 : Int)))
    if c2 then
      (shunterref01_Of n a0_v.2.1 a0_v.2.2.1).bind fun y3 =>
      (shunterref01_Len n y3).bind fun y4 =>
      some (decide (y4 ≤ a0_v.1))
    else
    some false
  else
  some false
/-- shunter/shunterref09.May -/
def shunterref09_May.j1 (n : Nat) (e5 : T_shunterref09_Row) (a0_x : T_api_Ins) (j12 : Bool) : Option Int :=
  if j12 then
    some (7 : Int)
  else
  let c13 := (e5.1.toList == (⟨#[112, 117, 115, 104]⟩ : ByteArray).toList)
  if c13 then
    (shunterref02_May n a0_x.2.2.2.1).bind fun y14 =>
    if (!y14) then
      some (1 : Int)
    else
    some (0 : Int)
  else
  let c15 := (!((a0_x.2.2.2.1.1 == (((0 : Int), (0 : Int), (0 : Int), ()).1)) && ((a0_x.2.2.2.1.2.1 == (((0 : Int), (0 : Int), (0 : Int), ()).2.1)) && ((a0_x.2.2.2.1.2.2.1 == (((0 : Int), (0 : Int), (0 : Int), ()).2.2.1)) && true))))
  if c15 then
    some (1 : Int)
  else
  some (0 : Int)
def shunterref09_May (n : Nat) (a0_x : T_api_Ins) : Option Int :=
  let c1 := (decide (a0_x.1 < (0 : Int)))
  if c1 then
    some (10 : Int)
  else
  let c2 := (decide (a0_x.1 > (34 : Int)))
  if c2 then
    some (10 : Int)
  else
  (shunterref09_Table n).bind fun y4 =>
  (AM.at? y4 a0_x.1).bind fun _ =>
  (y4[a0_x.1.toNat]?).bind fun e5 =>
  if (decide (0 ≤ (0 : Int)) && decide ((0 : Int) < 2)) then
  (e5.2.2.2.2.1[(0 : Int).toNat]?).bind fun e6 =>
  if (decide (a0_x.2.1 < e6)) then
    shunterref09_May.j1 n e5 a0_x true
  else
  if (decide (0 ≤ (1 : Int)) && decide ((1 : Int) < 2)) then
  (e5.2.2.2.2.1[(1 : Int).toNat]?).bind fun e7 =>
  if (decide (a0_x.2.1 > e7)) then
    shunterref09_May.j1 n e5 a0_x true
  else
  if (decide (0 ≤ (0 : Int)) && decide ((0 : Int) < 2)) then
  (e5.2.2.2.2.2.1[(0 : Int).toNat]?).bind fun e8 =>
  if (decide (a0_x.2.2.1 < e8)) then
    shunterref09_May.j1 n e5 a0_x true
  else
  if (decide (0 ≤ (1 : Int)) && decide ((1 : Int) < 2)) then
  (e5.2.2.2.2.2.1[(1 : Int).toNat]?).bind fun e9 =>
  if (decide (a0_x.2.2.1 > e9)) then
    shunterref09_May.j1 n e5 a0_x true
  else
  let c10 := (e5.1.toList == (⟨#[115, 108, 105, 99, 101]⟩ : ByteArray).toList)
  if c10 then
    let c11 := (decide (a0_x.2.1 < a0_x.2.2.1))
    shunterref09_May.j1 n e5 a0_x c11
  else
  shunterref09_May.j1 n e5 a0_x false
  else none
  else none
  else none
  else none
/-- shunter/shunterref02.Bits -/
abbrev shunterref02_Bits.l0.X := ((Int × Unit) × (T_api_Vec × ((List Bool) × Unit) × (List Bool) × Unit))
abbrev shunterref02_Bits.l0.Y := ((Unit) × ((List Bool) × Unit))
def shunterref02_Bits.l0.step (n : Nat) (L : shunterref02_Bits.l0.X → Option shunterref02_Bits.l0.Y) (x : shunterref02_Bits.l0.X) : Option shunterref02_Bits.l0.Y :=
  if (decide (x.1.1 < x.2.1.1)) then
    let c2 := (decide (x.1.1 < (128 : Int)))
    if c2 then
      if (decide (0 ≤ x.1.1) && decide (x.1.1 < 128)) then
      (x.2.2.1.1[x.1.1.toNat]?).bind fun e4 =>
      if decide (x.2.2.2.1.length + ([e4] : List Bool).length ≤ 140737488355328) then
      let c5 := (x.2.2.2.1 ++ ([e4] : List Bool))
      let c6 := (IntKind.wrap .i64 (x.1.1 + (1 : Int)))
      L ((c6, ()), (x.2.1, (x.2.2.1.1, ()), c5, ()))
      else none
      else none
    else
    some ((()), (x.2.2.2.1, ()))
  else
  some ((()), (x.2.2.2.1, ()))
def shunterref02_Bits.l0 (n m : Nat) (x : shunterref02_Bits.l0.X) : Option shunterref02_Bits.l0.Y := loop (shunterref02_Bits.l0.step n) m x
def shunterref02_Bits (n : Nat) (a0_v : T_api_Vec) : Option (List Bool) :=
  (shunterref01_Of n a0_v.2.1 a0_v.2.2.1).bind fun y1 =>
  (shunterref02_Bits.l0 n n (((0 : Int), ()), (a0_v, (y1, ()), ([] : List Bool), ()))).bind fun y7 =>
  some y7.2.1
/-- shunter/shunterref03.Bytes -/
abbrev shunterref03_Bytes.l2.X := (((List Bool) × Int × Int × Int × Unit) × ((List Int) × Unit))
abbrev shunterref03_Bytes.l2.Y := (((List Bool) × Int × Int × Unit) × ((List Int) × Unit))
def shunterref03_Bytes.l2.step.j1 (n : Nat) (L : shunterref03_Bytes.l2.X → Option shunterref03_Bytes.l2.Y) (x : shunterref03_Bytes.l2.X) (c3 : Int) (j6 : Bool) : Option shunterref03_Bytes.l2.Y :=
  if j6 then
    let c7 := (IntKind.wrap .i64 (c3 + (1 : Int)))
    let c10 := (IntKind.wrap .i64 (x.1.2.2.2.1 + (1 : Int)))
    L ((x.1.1, x.1.2.1, c7, c10, ()), (x.2.1, ()))
  else
  let c11 := (IntKind.wrap .i64 (x.1.2.2.2.1 + (1 : Int)))
  L ((x.1.1, x.1.2.1, c3, c11, ()), (x.2.1, ()))
def shunterref03_Bytes.l2.step (n : Nat) (L : shunterref03_Bytes.l2.X → Option shunterref03_Bytes.l2.Y) (x : shunterref03_Bytes.l2.X) : Option shunterref03_Bytes.l2.Y :=
  let c2 := (IntKind.wrap .i64 (x.1.2.1 + (8 : Int)))
  if (decide (x.1.2.2.2.1 < c2)) then
    let c3 := (IntKind.wrap .i64 ((2 : Int) * x.1.2.2.1))
    let c4 := (decide (x.1.2.2.2.1 < (x.1.1.length : Int)))
    if c4 then
      (AM.at? x.1.1 x.1.2.2.2.1).bind fun e5 =>
      shunterref03_Bytes.l2.step.j1 n L x c3 e5
    else
    shunterref03_Bytes.l2.step.j1 n L x c3 false
  else
  some ((x.1.1, x.1.2.1, x.1.2.2.1, ()), (x.2.1, ()))
def shunterref03_Bytes.l2 (n m : Nat) (x : shunterref03_Bytes.l2.X) : Option shunterref03_Bytes.l2.Y := loop (shunterref03_Bytes.l2.step n) m x
abbrev shunterref03_Bytes.l0.X := (((List Bool) × Int × Unit) × ((List Int) × Unit))
abbrev shunterref03_Bytes.l0.Y := ((Unit) × ((List Int) × Unit))
def shunterref03_Bytes.l0.step (n : Nat) (L : shunterref03_Bytes.l0.X → Option shunterref03_Bytes.l0.Y) (x : shunterref03_Bytes.l0.X) : Option shunterref03_Bytes.l0.Y :=
  let c1 := (decide (x.1.2.1 < (x.1.1.length : Int)))
  if c1 then
    (shunterref03_Bytes.l2 n n ((x.1.1, x.1.2.1, (0 : Int), x.1.2.1, ()), (x.2.1, ()))).bind fun y12 =>
    let c13 := (IntKind.wrap .u8 y12.1.2.2.1)
    if decide (y12.2.1.length + ([c13] : List Int).length ≤ 140737488355328) then
    let c14 := (y12.2.1 ++ ([c13] : List Int))
    let c15 := (IntKind.wrap .i64 (y12.1.2.1 + (8 : Int)))
    L ((y12.1.1, c15, ()), (c14, ()))
    else none
  else
  some ((()), (x.2.1, ()))
def shunterref03_Bytes.l0 (n m : Nat) (x : shunterref03_Bytes.l0.X) : Option shunterref03_Bytes.l0.Y := loop (shunterref03_Bytes.l0.step n) m x
def shunterref03_Bytes (n : Nat) (a0_l : (List Bool)) : Option (List Int) :=
  (shunterref03_Bytes.l0 n n ((a0_l, (0 : Int), ()), (([] : List Int), ()))).bind fun y16 =>
  some y16.2.1
/-- shunter/shunterref07.Number -/
abbrev shunterref07_Number.l0.X := ((Int × Unit) × ((List Bool) × (List Bool) × Unit))
abbrev shunterref07_Number.l0.Y := ((Unit) × ((List Bool) × Unit))
def shunterref07_Number.l0.step (n : Nat) (L : shunterref07_Number.l0.X → Option shunterref07_Number.l0.Y) (x : shunterref07_Number.l0.X) : Option shunterref07_Number.l0.Y :=
  if (decide (x.1.1 ≥ (0 : Int))) then
    (AM.at? x.2.1 x.1.1).bind fun _ =>
    (x.2.1[x.1.1.toNat]?).bind fun e4 =>
    if decide (x.2.2.1.length + ([e4] : List Bool).length ≤ 140737488355328) then
    let c5 := (x.2.2.1 ++ ([e4] : List Bool))
    let c6 := (IntKind.wrap .i64 (x.1.1 - (1 : Int)))
    L ((c6, ()), (x.2.1, c5, ()))
    else none
  else
  some ((()), (x.2.2.1, ()))
def shunterref07_Number.l0 (n m : Nat) (x : shunterref07_Number.l0.X) : Option shunterref07_Number.l0.Y := loop (shunterref07_Number.l0.step n) m x
def shunterref07_Number (n : Nat) (a0_n : Int) (a1_size : Int) : Option (List Int) :=
  (shunterref02_Bits n ((64 : Int), (0 : Int), (IntKind.wrap .u64 a0_n), ())).bind fun y1 =>
  let c2 := (IntKind.wrap .i64 ((8 : Int) * a1_size))
  let c3 := (IntKind.wrap .i64 (c2 - (1 : Int)))
  (shunterref07_Number.l0 n n ((c3, ()), (y1, ([] : List Bool), ()))).bind fun y7 =>
  (shunterref03_Bytes n y7.2.1).bind fun y8 =>
  some y8
/-- shunter/shunterref11.n1 -/
def shunterref11_n1 (n : Nat) (a0_n : Int) : Option (List Int) :=
  (shunterref07_Number n a0_n (1 : Int)).bind fun y1 =>
  some y1
/-- shunter/shunterref03.Of -/
abbrev shunterref03_Of.l0.X := ((Int × Unit) × ((List Bool) × (List Bool) × Unit))
abbrev shunterref03_Of.l0.Y := ((Unit) × ((List Bool) × Unit))
def shunterref03_Of.l0.step (n : Nat) (L : shunterref03_Of.l0.X → Option shunterref03_Of.l0.Y) (x : shunterref03_Of.l0.X) : Option shunterref03_Of.l0.Y :=
  if (decide (x.1.1 ≥ (0 : Int))) then
    (AM.at? x.2.1 x.1.1).bind fun _ =>
    (x.2.1[x.1.1.toNat]?).bind fun e3 =>
    if decide (x.2.2.1.length + ([e3] : List Bool).length ≤ 140737488355328) then
    let c4 := (x.2.2.1 ++ ([e3] : List Bool))
    let c5 := (IntKind.wrap .i64 (x.1.1 - (1 : Int)))
    L ((c5, ()), (x.2.1, c4, ()))
    else none
  else
  some ((()), (x.2.2.1, ()))
def shunterref03_Of.l0 (n m : Nat) (x : shunterref03_Of.l0.X) : Option shunterref03_Of.l0.Y := loop (shunterref03_Of.l0.step n) m x
def shunterref03_Of (n : Nat) (a0_v : T_api_Vec) : Option (List Bool) :=
  (shunterref02_Bits n a0_v).bind fun y1 =>
  let c2 := (IntKind.wrap .i64 ((y1.length : Int) - (1 : Int)))
  (shunterref03_Of.l0 n n ((c2, ()), (y1, ([] : List Bool), ()))).bind fun y6 =>
  some y6.2.1
/-- shunter/shunterref07.Vec -/
abbrev shunterref07_Vec.l0.X := ((Unit) × (T_api_Vec × (List Bool) × Unit))
abbrev shunterref07_Vec.l0.Y := ((Unit) × (T_api_Vec × (List Bool) × Unit))
def shunterref07_Vec.l0.step (n : Nat) (L : shunterref07_Vec.l0.X → Option shunterref07_Vec.l0.Y) (x : shunterref07_Vec.l0.X) : Option shunterref07_Vec.l0.Y :=
  let c2 := (IntKind.wrap .i64 ((x.2.2.1.length : Int) + x.2.1.1))
  let c3 := ((c2.tmod (8 : Int)) != (0 : Int))
  if c3 then
    if decide (x.2.2.1.length + ([false] : List Bool).length ≤ 140737488355328) then
    let c4 := (x.2.2.1 ++ ([false] : List Bool))
    L ((()), (x.2.1, c4, ()))
    else none
  else
  some ((()), (x.2.1, x.2.2.1, ()))
def shunterref07_Vec.l0 (n m : Nat) (x : shunterref07_Vec.l0.X) : Option shunterref07_Vec.l0.Y := loop (shunterref07_Vec.l0.step n) m x
def shunterref07_Vec (n : Nat) (a0_v : T_api_Vec) : Option (List Int) :=
  (shunterref02_May n a0_v).bind fun y1 =>
  if (!y1) then
    some ([(0 : Int)] : List Int)
  else
  (shunterref07_Vec.l0 n n ((()), (a0_v, ([] : List Bool), ()))).bind fun y5 =>
  let c6 := ([(IntKind.wrap .u8 y5.2.1.1)] : List Int)
  (shunterref03_Of n y5.2.1).bind fun y7 =>
  if decide (y5.2.2.1.length + y7.length ≤ 140737488355328) then
  (shunterref03_Bytes n (y5.2.2.1 ++ y7)).bind fun y8 =>
  if decide (c6.length + y8.length ≤ 140737488355328) then
  some (c6 ++ y8)
  else none
  else none
/-- shunter/shunterref11.Code -/
abbrev shunterref11_Code.l0.X := (((List T_api_Ins) × Int × Unit) × ((List Int) × Unit))
abbrev shunterref11_Code.l0.Y := ((Unit) × ((List Int) × Unit))
def shunterref11_Code.l0.step.j2 (n : Nat) (L : shunterref11_Code.l0.X → Option shunterref11_Code.l0.Y) (x : shunterref11_Code.l0.X) (e6 : T_shunterref09_Row) (j24 : (List Int)) : Option shunterref11_Code.l0.Y :=
  if (e6.2.2.2.1 == (2 : Int)) then
    (AM.at? x.1.1 x.1.2.1).bind fun e25 =>
    (shunterref11_n1 n e25.2.2.1).bind fun y27 =>
    if decide (j24.length + y27.length ≤ 140737488355328) then
    let c30 := (IntKind.wrap .i64 (x.1.2.1 + (1 : Int)))
    L ((x.1.1, c30, ()), ((j24 ++ y27), ()))
    else none
  else
  let c31 := (IntKind.wrap .i64 (x.1.2.1 + (1 : Int)))
  L ((x.1.1, c31, ()), (j24, ()))
def shunterref11_Code.l0.step.j1 (n : Nat) (L : shunterref11_Code.l0.X → Option shunterref11_Code.l0.Y) (x : shunterref11_Code.l0.X) (e6 : T_shunterref09_Row) (j18 : Bool) (j19 : (List Int)) : Option shunterref11_Code.l0.Y :=
  if j18 then
    (AM.at? x.1.1 x.1.2.1).bind fun e20 =>
    (shunterref11_n1 n e20.2.1).bind fun y22 =>
    if decide (j19.length + y22.length ≤ 140737488355328) then
    shunterref11_Code.l0.step.j2 n L x e6 (j19 ++ y22)
    else none
  else
  shunterref11_Code.l0.step.j2 n L x e6 j19
def shunterref11_Code.l0.step (n : Nat) (L : shunterref11_Code.l0.X → Option shunterref11_Code.l0.Y) (x : shunterref11_Code.l0.X) : Option shunterref11_Code.l0.Y :=
  let c2 := (decide (x.1.2.1 < (x.1.1.length : Int)))
  if c2 then
    (shunterref09_Table n).bind fun y3 =>
    (AM.at? x.1.1 x.1.2.1).bind fun e4 =>
    (AM.at? y3 e4.1).bind fun _ =>
    (y3[e4.1.toNat]?).bind fun e6 =>
    (AM.at? x.1.1 x.1.2.1).bind fun e7 =>
    (shunterref11_n1 n e7.1).bind fun y9 =>
    if decide (x.2.1.length + y9.length ≤ 140737488355328) then
    let c10 := (e6.1.toList == (⟨#[112, 117, 115, 104]⟩ : ByteArray).toList)
    if c10 then
      (AM.at? x.1.1 x.1.2.1).bind fun e11 =>
      (shunterref07_Vec n e11.2.2.2.1).bind fun y13 =>
      if decide ((x.2.1 ++ y9).length + y13.length ≤ 140737488355328) then
      let c16 := (decide (e6.2.2.2.1 ≥ (1 : Int)))
      shunterref11_Code.l0.step.j1 n L x e6 c16 ((x.2.1 ++ y9) ++ y13)
      else none
    else
    let c17 := (decide (e6.2.2.2.1 ≥ (1 : Int)))
    shunterref11_Code.l0.step.j1 n L x e6 c17 (x.2.1 ++ y9)
    else none
  else
  some ((()), (x.2.1, ()))
def shunterref11_Code.l0 (n m : Nat) (x : shunterref11_Code.l0.X) : Option shunterref11_Code.l0.Y := loop (shunterref11_Code.l0.step n) m x
def shunterref11_Code (n : Nat) (a0_l : (List T_api_Ins)) : Option (List Int) :=
  (shunterref11_n1 n (a0_l.length : Int)).bind fun y1 =>
  (shunterref11_Code.l0 n n ((a0_l, (0 : Int), ()), (y1, ()))).bind fun y32 =>
  some y32.2.1
/-- shunter/shunterlaw11.PackCodes -/
abbrev shunterlaw11_PackCodes.l0.X := (((List Int) × (List T_api_Ins) × ByteArray × Bool × Int × Unit) × (Unit))
abbrev shunterlaw11_PackCodes.l0.Y := (((List Int) × (List T_api_Ins) × ByteArray × Bool × Unit) × (Unit))
def shunterlaw11_PackCodes.l0.step (n : Nat) (L : shunterlaw11_PackCodes.l0.X → Option shunterlaw11_PackCodes.l0.Y) (x : shunterlaw11_PackCodes.l0.X) : Option shunterlaw11_PackCodes.l0.Y :=
  let c6 := (decide (x.1.2.2.2.2.1 < (x.1.2.1.length : Int)))
  if c6 then
    if x.1.2.2.2.1 then
      (AM.at? x.1.2.1 x.1.2.2.2.2.1).bind fun e7 =>
      (shunterref09_May n e7).bind fun y8 =>
      let c11 := (IntKind.wrap .i64 (x.1.2.2.2.2.1 + (1 : Int)))
      L ((x.1.1, x.1.2.1, x.1.2.2.1, (y8 == (0 : Int)), c11, ()), (()))
    else
    let c12 := (IntKind.wrap .i64 (x.1.2.2.2.2.1 + (1 : Int)))
    L ((x.1.1, x.1.2.1, x.1.2.2.1, false, c12, ()), (()))
  else
  some ((x.1.1, x.1.2.1, x.1.2.2.1, x.1.2.2.2.1, ()), (()))
def shunterlaw11_PackCodes.l0 (n m : Nat) (x : shunterlaw11_PackCodes.l0.X) : Option shunterlaw11_PackCodes.l0.Y := loop (shunterlaw11_PackCodes.l0.step n) m x
def shunterlaw11_PackCodes.j2 (n : Nat) (y13 : (((List Int) × (List T_api_Ins) × ByteArray × Bool × Unit) × (Unit))) (j17 : ByteArray) : Option Bool :=
  (pack_Code n y13.1.1 y13.1.2.1).bind fun y18 =>
  let c19 := ((AM.strOf y18).toList == j17.toList)
  if c19 then
    let c20 := ((AM.strOf y13.1.1).toList == y13.1.2.2.1.toList)
    if c20 then
      (shunterlaw11_lives n).bind fun y21 =>
      some y21
    else
    some false
  else
  some false
def shunterlaw11_PackCodes.j1 (n : Nat) (a0_b : (List Int)) (a1_l : (List T_api_Ins)) (j3 : Bool) : Option Bool :=
  if j3 then
    (shunterlaw11_lives n).bind fun y4 =>
    some y4
  else
  let c5 := (decide ((a1_l.length : Int) ≤ (64 : Int)))
  (shunterlaw11_PackCodes.l0 n n ((a0_b, a1_l, (AM.strOf a0_b), c5, (0 : Int), ()), (()))).bind fun y13 =>
  if decide (y13.1.2.2.1.size + (⟨#[0]⟩ : ByteArray).size ≤ 9223372036854775807) then
  let c14 := (y13.1.2.2.1 ++ (⟨#[0]⟩ : ByteArray))
  if y13.1.2.2.2.1 then
    (shunterref11_Code n y13.1.2.1).bind fun y15 =>
    if decide (y13.1.2.2.1.size + (AM.strOf y15).size ≤ 9223372036854775807) then
    let c16 := (y13.1.2.2.1 ++ (AM.strOf y15))
    shunterlaw11_PackCodes.j2 n y13 c16
    else none
  else
  shunterlaw11_PackCodes.j2 n y13 c14
  else none
def shunterlaw11_PackCodes (n : Nat) (a0_b : (List Int)) (a1_l : (List T_api_Ins)) : Option Bool :=
  let c1 := (decide ((a0_b.length : Int) > (500 : Int)))
  if c1 then
    shunterlaw11_PackCodes.j1 n a0_b a1_l true
  else
  let c2 := (decide ((a1_l.length : Int) > (200 : Int)))
  shunterlaw11_PackCodes.j1 n a0_b a1_l c2
end Pl
end
