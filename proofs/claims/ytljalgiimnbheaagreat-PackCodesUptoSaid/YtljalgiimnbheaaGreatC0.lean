/- Helper: each function of the program computes its plain function (for PackCodesUptoSaid). No condition. -/
import Derived.Test.YtljalgiimnbheaaGreatF1
import Derived.Test.YtljalgiimnbheaaGreatT1
set_option linter.all false
section
open Go Go.AM Go.Proofs Pl
namespace Ch
/-! shunter/image.first -/
def S79 : Sm := { ins := y105, k := 1, outs := (.int .i64), fresh := [], F := fun n x => image_first n x.1 }
def fns1 : List (FuncId × Sm) := (79, S79) :: fns0
def h79_0 : Tpl := ⟨15, [(5, .d y28), (6, .d (.int .i64)), (7, .d (.int .i64))], []⟩
def o79_0 : Outs := .cons (.exit 0) ⟨15, [], []⟩ (.last .ret ⟨15, [(2, .d (.int .i64))], []⟩)
def lp79 : List (Nat × AM.Loop) := [(0, pLoop h79_0 o79_0 image_first.l0.step)]
theorem ok1 : ∀ n, EnvOK Tryz.prog (env tabs fns1 [] n) := envOK_K ok0 mixed Tryz.func79 (by kernel_rfl) (by kernel_rfl) (S := S79) (loops := lp79) [] [] (by kernel_rfl) (fun n => (.cons (fun L x => by kernel_rfl) .nil)) (fun n x => by kernel_rfl)
/-! shunter/image.wants -/
def S80 : Sm := { ins := y247, k := 1, outs := (.int .i64), fresh := [], F := fun n x => image_wants n x.1 x.2.1 }
def fns2 : List (FuncId × Sm) := (80, S80) :: fns1
def lp80 : List (Nat × AM.Loop) := []
theorem ok2 : ∀ n, EnvOK Tryz.prog (env tabs fns2 [] n) := envOK_K ok1 mixed Tryz.func80 (by kernel_rfl) (by kernel_rfl) (S := S80) (loops := lp80) [] [] (by kernel_rfl) (fun n => .nil) (fun n x => by kernel_rfl)
/-! shunter/name.between -/
def S172 : Sm := { ins := y345, k := 1, outs := .bool, fresh := [], F := fun n x => name_between n x.1 x.2.1 x.2.2.1 }
def fns3 : List (FuncId × Sm) := (172, S172) :: fns2
def lp172 : List (Nat × AM.Loop) := []
theorem ok3 : ∀ n, EnvOK Tryz.prog (env tabs fns3 [] n) := envOK_K ok2 mixed Tryz.func172 (by kernel_rfl) (by kernel_rfl) (S := S172) (loops := lp172) [] [] (by kernel_rfl) (fun n => .nil) (fun n x => by kernel_rfl)
/-! shunter/name.Letter -/
def S124 : Sm := { ins := y296, k := 1, outs := .bool, fresh := [], F := fun n x => name_Letter n x.1 }
def fns4 : List (FuncId × Sm) := (124, S124) :: fns3
def lp124 : List (Nat × AM.Loop) := []
theorem ok4 : ∀ n, EnvOK Tryz.prog (env tabs fns4 [] n) := envOK_K ok3 mixed Tryz.func124 (by kernel_rfl) (by kernel_rfl) (S := S124) (loops := lp124) [] [] (by kernel_rfl) (fun n => .nil) (fun n x => by kernel_rfl)
/-! shunter/name.Digit -/
def S125 : Sm := { ins := y296, k := 1, outs := .bool, fresh := [], F := fun n x => name_Digit n x.1 }
def fns5 : List (FuncId × Sm) := (125, S125) :: fns4
def lp125 : List (Nat × AM.Loop) := []
theorem ok5 : ∀ n, EnvOK Tryz.prog (env tabs fns5 [] n) := envOK_K ok4 mixed Tryz.func125 (by kernel_rfl) (by kernel_rfl) (S := S125) (loops := lp125) [] [] (by kernel_rfl) (fun n => .nil) (fun n x => by kernel_rfl)
/-! shunter/name.May -/
def S81 : Sm := { ins := y97, k := 1, outs := .bool, fresh := [], F := fun n x => name_May n x.1 }
def fns6 : List (FuncId × Sm) := (81, S81) :: fns5
def h81_0 : Tpl := ⟨39, [(3, .d (.int .i64)), (7, .c (.ref 7 0 []))], [(7, .iter)]⟩
def o81_0 : Outs := .cons (.exit 0) ⟨39, [(3, .d (.int .i64))], []⟩ (.last .ret ⟨39, [(2, .d .bool)], []⟩)
def lp81 : List (Nat × AM.Loop) := [(0, pLoop h81_0 o81_0 name_May.l0.step)]
theorem ok6 : ∀ n, EnvOK Tryz.prog (env tabs fns6 [] n) := envOK_K ok5 mixed Tryz.func81 (by kernel_rfl) (by kernel_rfl) (S := S81) (loops := lp81) [] [] (by kernel_rfl) (fun n => (.cons (fun L x => by kernel_rfl) .nil)) (fun n x => by kernel_rfl)
/-! shunter/image.within -/
def S82 : Sm := { ins := y8, k := 1, outs := .bool, fresh := [], F := fun n x => image_within n x.1 x.2.1 x.2.2.1 }
def fns7 : List (FuncId × Sm) := (82, S82) :: fns6
def lp82 : List (Nat × AM.Loop) := []
theorem ok7 : ∀ n, EnvOK Tryz.prog (env tabs fns7 [] n) := envOK_K ok6 mixed Tryz.func82 (by kernel_rfl) (by kernel_rfl) (S := S82) (loops := lp82) [] [] (by kernel_rfl) (fun n => .nil) (fun n x => by kernel_rfl)
/-! shunter/image.all -/
def S83 : Sm := { ins := y253, k := 2, outs := y76, fresh := [], F := fun n x => image_all n x.1 x.2.1 x.2.2.1 }
def fns8 : List (FuncId × Sm) := (83, S83) :: fns7
def h83_0 : Tpl := ⟨25, [(2, .d y250), (13, .d (.int .i64)), (14, .d (.int .i64))], []⟩
def o83_0 : Outs := .cons (.exit 0) ⟨25, [], []⟩ (.last .ret ⟨25, [(6, .d (.int .i64)), (7, .d (.int .i64))], []⟩)
def lp83 : List (Nat × AM.Loop) := [(0, pLoop h83_0 o83_0 image_all.l0.step)]
theorem ok8 : ∀ n, EnvOK Tryz.prog (env tabs fns8 [] n) := envOK_K ok7 mixed Tryz.func83 (by kernel_rfl) (by kernel_rfl) (S := S83) (loops := lp83) [] [] (by kernel_rfl) (fun n => (.cons (fun L x => by kernel_rfl) .nil)) (fun n x => by kernel_rfl)
/-! strings.Contains -/
def S176 : Sm := { ins := y275, k := 1, outs := .bool, fresh := [], F := fun n x => strings_Contains n x.1 x.2.1 }
def fns9 : List (FuncId × Sm) := (176, S176) :: fns8
theorem ok9 : ∀ n, EnvOK Tryz.prog (env tabs fns9 [] n) := envOK_next ok8 (fun n => LibX.contains_sm n)
/-! shunter/shape.plain -/
def S129 : Sm := { ins := y97, k := 1, outs := .bool, fresh := [], F := fun n x => shape_plain n x.1 }
def fns10 : List (FuncId × Sm) := (129, S129) :: fns9
def lp129 : List (Nat × AM.Loop) := []
theorem ok10 : ∀ n, EnvOK Tryz.prog (env tabs fns10 [] n) := envOK_K ok9 mixed Tryz.func129 (by kernel_rfl) (by kernel_rfl) (S := S129) (loops := lp129) [] [] (by kernel_rfl) (fun n => .nil) (fun n x => by kernel_rfl)
/-! shunter/name.Fold -/
def S202 : Sm := { ins := y296, k := 1, outs := (.int .i32), fresh := [], F := fun n x => name_Fold n x.1 }
def fns11 : List (FuncId × Sm) := (202, S202) :: fns10
def lp202 : List (Nat × AM.Loop) := []
theorem ok11 : ∀ n, EnvOK Tryz.prog (env tabs fns11 [] n) := envOK_K ok10 mixed Tryz.func202 (by kernel_rfl) (by kernel_rfl) (S := S202) (loops := lp202) [] [] (by kernel_rfl) (fun n => .nil) (fun n x => by kernel_rfl)
/-! shunter/name.Key -/
def S177 : Sm := { ins := y97, k := 1, outs := .str, fresh := [], F := fun n x => name_Key n x.1 }
def fns12 : List (FuncId × Sm) := (177, S177) :: fns11
theorem ok12 : ∀ n, EnvOK Tryz.prog (env tabs fns12 [] n) := envOK_next ok11 (fun n => KeyX.key_sm ((ok11 n).fn 202 S202 rfl n))
/-! slices.IndexFunc[[]string,string] -/
def S178 : Sm := { ins := y351, k := 1, outs := (.int .i64), fresh := [], F := fun n x => slices_IndexFunc_string_string n x.1 x.2.1 }
def fns13 : List (FuncId × Sm) := (178, S178) :: fns12
def h178_0 : Tpl := ⟨19, [(0, .d y87), (1, .d y215), (7, .d (.int .i64)), (8, .d (.int .i64))], []⟩
def o178_0 : Outs := .cons (.exit 0) ⟨19, [], []⟩ (.last .ret ⟨19, [(4, .d (.int .i64))], []⟩)
def lp178 : List (Nat × AM.Loop) := [(0, pLoop h178_0 o178_0 slices_IndexFunc_string_string.l0.step)]
theorem ok13 : ∀ n, EnvOK Tryz.prog (env tabs fns13 [] n) := envOK_K ok12 mixed Tryz.func178 (by kernel_rfl) (by kernel_rfl) (S := S178) (loops := lp178) [] [] (by kernel_rfl) (fun n => (.cons (fun L x => by kernel_rfl) .nil)) (fun n x => by kernel_rfl)
/-! shunter/name.Index$1 -/
def S179 : Sm := { ins := y412, k := 1, outs := .bool, fresh := [], F := fun n x => name_Index_1 n x.1 x.2.1 }
def fns14 : List (FuncId × Sm) := (179, S179) :: fns13
def lp179 : List (Nat × AM.Loop) := []
theorem ok14 : ∀ n, EnvOK Tryz.prog (env tabs fns14 [] n) := envOK_K ok13 mixed Tryz.func179 (by kernel_rfl) (by kernel_rfl) (S := S179) (loops := lp179) [] [] (by kernel_rfl) (fun n => .nil) (fun n x => by kernel_rfl)
/-! shunter/name.Index -/
def S130 : Sm := { ins := y302, k := 1, outs := (.int .i64), fresh := [], F := fun n x => name_Index n x.1 x.2.1 }
def fns15 : List (FuncId × Sm) := (130, S130) :: fns14
def lp130 : List (Nat × AM.Loop) := []
theorem ok15 : ∀ n, EnvOK Tryz.prog (env tabs fns15 [] n) := envOK_K ok14 mixed Tryz.func130 (by kernel_rfl) (by kernel_rfl) (S := S130) (loops := lp130) [] [] (by kernel_rfl) (fun n => .nil) (fun n x => by kernel_rfl)
/-! shunter/shape.within -/
def S131 : Sm := { ins := y8, k := 1, outs := .bool, fresh := [], F := fun n x => shape_within n x.1 x.2.1 x.2.2.1 }
def fns16 : List (FuncId × Sm) := (131, S131) :: fns15
def lp131 : List (Nat × AM.Loop) := []
theorem ok16 : ∀ n, EnvOK Tryz.prog (env tabs fns16 [] n) := envOK_K ok15 mixed Tryz.func131 (by kernel_rfl) (by kernel_rfl) (S := S131) (loops := lp131) [] [] (by kernel_rfl) (fun n => .nil) (fun n x => by kernel_rfl)
/-! shunter/shape.fields -/
def S173 : Sm := { ins := y100, k := 1, outs := (.int .i64), fresh := [], F := fun n x => shape_fields n x.1 }
def fns17 : List (FuncId × Sm) := (173, S173) :: fns16
def h173_0 : Tpl := ⟨42, [(3, .c (.own 33 0)), (4, .d (.int .i64)), (7, .d y6), (8, .d (.int .i64)), (9, .d (.int .i64))], [(33, .arr 9 .str false)]⟩
def o173_0 : Outs := .cons (.exit 0) ⟨42, [(4, .d (.int .i64))], []⟩ (.last .ret ⟨42, [(2, .d (.int .i64))], []⟩)
def lp173 : List (Nat × AM.Loop) := [(0, pLoop h173_0 o173_0 shape_fields.l0.step)]
theorem ok17 : ∀ n, EnvOK Tryz.prog (env tabs fns17 [] n) := envOK_K ok16 mixed Tryz.func173 (by kernel_rfl) (by kernel_rfl) (S := S173) (loops := lp173) [] [] (by kernel_rfl) (fun n => (.cons (fun L x => by kernel_rfl) .nil)) (fun n x => by kernel_rfl)
/-! shunter/shape.varies -/
def S174 : Sm := { ins := y151, k := 1, outs := .bool, fresh := [], F := fun n x => shape_varies n x.1 }
def fns18 : List (FuncId × Sm) := (174, S174) :: fns17
def lp174 : List (Nat × AM.Loop) := []
theorem ok18 : ∀ n, EnvOK Tryz.prog (env tabs fns18 [] n) := envOK_K ok17 mixed Tryz.func174 (by kernel_rfl) (by kernel_rfl) (S := S174) (loops := lp174) [] [] (by kernel_rfl) (fun n => .nil) (fun n x => by kernel_rfl)
/-! shunter/shape.May -/
def S126 : Sm := { ins := y151, k := 1, outs := (.int .i64), fresh := [], F := fun n x => shape_May n x.1 }
def fns19 : List (FuncId × Sm) := (126, S126) :: fns18
def lp126 : List (Nat × AM.Loop) := []
theorem ok19 : ∀ n, EnvOK Tryz.prog (env tabs fns19 [] n) := envOK_K ok18 mixed Tryz.func126 (by kernel_rfl) (by kernel_rfl) (S := S126) (loops := lp126) [] [] (by kernel_rfl) (fun n => .nil) (fun n x => by kernel_rfl)
/-! shunter/name.Alike -/
def S175 : Sm := { ins := y275, k := 1, outs := .bool, fresh := [], F := fun n x => name_Alike n x.1 x.2.1 }
def fns20 : List (FuncId × Sm) := (175, S175) :: fns19
def lp175 : List (Nat × AM.Loop) := []
theorem ok20 : ∀ n, EnvOK Tryz.prog (env tabs fns20 [] n) := envOK_K ok19 mixed Tryz.func175 (by kernel_rfl) (by kernel_rfl) (S := S175) (loops := lp175) [] [] (by kernel_rfl) (fun n => .nil) (fun n x => by kernel_rfl)
end Ch
end

section
open Go Go.AM Go.Proofs Pl
namespace Ch
/-! shunter/image.titled -/
def S127 : Sm := { ins := y300, k := 1, outs := (.int .i64), fresh := [], F := fun n x => image_titled n x.1 x.2.1 }
def fns21 : List (FuncId × Sm) := (127, S127) :: fns20
def h127_0 : Tpl := ⟨28, [(1, .d y298), (5, .d .str), (18, .d (.int .i64)), (19, .d (.int .i64))], []⟩
def o127_0 : Outs := .cons (.exit 0) ⟨28, [], []⟩ (.last .ret ⟨28, [(4, .d (.int .i64))], []⟩)
def lp127 : List (Nat × AM.Loop) := [(0, pLoop h127_0 o127_0 image_titled.l0.step)]
theorem ok21 : ∀ n, EnvOK Tryz.prog (env tabs fns21 [] n) := envOK_K ok20 mixed Tryz.func127 (by kernel_rfl) (by kernel_rfl) (S := S127) (loops := lp127) [] [] (by kernel_rfl) (fun n => (.cons (fun L x => by kernel_rfl) .nil)) (fun n x => by kernel_rfl)
/-! (*shunter/image.checker).header$1 -/
def S128 : Sm := { ins := y415, k := 1, outs := .str, fresh := [], F := fun n x => image_checker_header_1 n x.1 x.2.1 }
def fns22 : List (FuncId × Sm) := (128, S128) :: fns21
def lp128 : List (Nat × AM.Loop) := []
theorem ok22 : ∀ n, EnvOK Tryz.prog (env tabs fns22 [] n) := envOK_K ok21 mixed Tryz.func128 (by kernel_rfl) (by kernel_rfl) (S := S128) (loops := lp128) [] [] (by kernel_rfl) (fun n => .nil) (fun n x => by kernel_rfl)
/-! (*shunter/image.checker).header -/
def S84 : Sm := { ins := y416, k := 1, outs := (.int .i64), fresh := [], F := fun n x => image_checker_header n x.1 x.2.1 }
def fns23 : List (FuncId × Sm) := (84, S84) :: fns22
def lp84 : List (Nat × AM.Loop) := []
theorem ok23 : ∀ n, EnvOK Tryz.prog (env tabs fns23 [] n) := envOK_K ok22 mixed Tryz.func84 (by kernel_rfl) (by kernel_rfl) (S := S84) (loops := lp84) [] [2] (by kernel_rfl) (fun n => .nil) (fun n x => by kernel_rfl)
/-! shunter/shape.many -/
def S180 : Sm := { ins := y158, k := 1, outs := (.int .i64), fresh := [], F := fun n x => shape_many n x.1 }
def fns24 : List (FuncId × Sm) := (180, S180) :: fns23
def lp180 : List (Nat × AM.Loop) := []
theorem ok24 : ∀ n, EnvOK Tryz.prog (env tabs fns24 [] n) := envOK_K ok23 mixed Tryz.func180 (by kernel_rfl) (by kernel_rfl) (S := S180) (loops := lp180) [] [] (by kernel_rfl) (fun n => .nil) (fun n x => by kernel_rfl)
/-! shunter/shape.Slots -/
def S132 : Sm := { ins := y216, k := 1, outs := (.int .i64), fresh := [], F := fun n x => shape_Slots n x.1 }
def fns25 : List (FuncId × Sm) := (132, S132) :: fns24
def h132_0 : Tpl := ⟨18, [(3, .d (.int .i64)), (6, .d y14), (7, .d (.int .i64)), (8, .d (.int .i64))], []⟩
def o132_0 : Outs := .last (.exit 0) ⟨18, [(3, .d (.int .i64))], []⟩
def lp132 : List (Nat × AM.Loop) := [(0, pLoop h132_0 o132_0 shape_Slots.l0.step)]
theorem ok25 : ∀ n, EnvOK Tryz.prog (env tabs fns25 [] n) := envOK_K ok24 mixed Tryz.func132 (by kernel_rfl) (by kernel_rfl) (S := S132) (loops := lp132) [] [] (by kernel_rfl) (fun n => (.cons (fun L x => by kernel_rfl) .nil)) (fun n x => by kernel_rfl)
/-! shunter/shape.Insts -/
def S85 : Sm := { ins := y217, k := 1, outs := (.int .i64), fresh := [], F := fun n x => shape_Insts n x.1 x.2.1 }
def fns26 : List (FuncId × Sm) := (85, S85) :: fns25
def h85_0 : Tpl := ⟨50, [(0, .d y12), (1, .d y14), (5, .c (.own 45 0)), (11, .d y14), (12, .d (.int .i64)), (13, .d (.int .i64))], [(45, .arr 9 .str false)]⟩
def o85_0 : Outs := .cons (.exit 0) ⟨50, [(1, .d y14)], []⟩ (.last .ret ⟨50, [(4, .d (.int .i64))], []⟩)
def lp85 : List (Nat × AM.Loop) := [(0, pLoop h85_0 o85_0 shape_Insts.l0.step)]
theorem ok26 : ∀ n, EnvOK Tryz.prog (env tabs fns26 [] n) := envOK_K ok25 mixed Tryz.func85 (by kernel_rfl) (by kernel_rfl) (S := S85) (loops := lp85) [] [] (by kernel_rfl) (fun n => (.cons (fun L x => by kernel_rfl) .nil)) (fun n x => by kernel_rfl)
/-! (*shunter/image.checker).meta$1 -/
def S133 : Sm := { ins := y415, k := 1, outs := .str, fresh := [], F := fun n x => image_checker_meta_1 n x.1 x.2.1 }
def fns27 : List (FuncId × Sm) := (133, S133) :: fns26
def lp133 : List (Nat × AM.Loop) := []
theorem ok27 : ∀ n, EnvOK Tryz.prog (env tabs fns27 [] n) := envOK_K ok26 mixed Tryz.func133 (by kernel_rfl) (by kernel_rfl) (S := S133) (loops := lp133) [] [] (by kernel_rfl) (fun n => .nil) (fun n x => by kernel_rfl)
/-! (*shunter/image.checker).meta -/
def S86 : Sm := { ins := y416, k := 1, outs := (.int .i64), fresh := [], F := fun n x => image_checker_meta n x.1 x.2.1 }
def fns28 : List (FuncId × Sm) := (86, S86) :: fns27
def lp86 : List (Nat × AM.Loop) := []
theorem ok28 : ∀ n, EnvOK Tryz.prog (env tabs fns28 [] n) := envOK_K ok27 mixed Tryz.func86 (by kernel_rfl) (by kernel_rfl) (S := S86) (loops := lp86) [] [2] (by kernel_rfl) (fun n => .nil) (fun n x => by kernel_rfl)
/-! (*shunter/image.checker).state$1 -/
def S134 : Sm := { ins := y415, k := 1, outs := .str, fresh := [], F := fun n x => image_checker_state_1 n x.1 x.2.1 }
def fns29 : List (FuncId × Sm) := (134, S134) :: fns28
def lp134 : List (Nat × AM.Loop) := []
theorem ok29 : ∀ n, EnvOK Tryz.prog (env tabs fns29 [] n) := envOK_K ok28 mixed Tryz.func134 (by kernel_rfl) (by kernel_rfl) (S := S134) (loops := lp134) [] [] (by kernel_rfl) (fun n => .nil) (fun n x => by kernel_rfl)
/-! shunter/shape.Of -/
def S209 : Sm := { ins := y365, k := 3, outs := y355, fresh := [], F := fun n x => shape_Of n x.1 x.2.1 }
def fns30 : List (FuncId × Sm) := (209, S209) :: fns29
def h209_0 : Tpl := ⟨29, [(1, .d (.int .i64)), (11, .d y14), (12, .d (.int .i64)), (13, .d (.int .i64))], []⟩
def o209_0 : Outs := .cons (.exit 0) ⟨29, [], []⟩ (.last .ret ⟨29, [(4, .d (.int .i64)), (5, .d (.int .i64)), (6, .d .bool)], []⟩)
def lp209 : List (Nat × AM.Loop) := [(0, pLoop h209_0 o209_0 shape_Of.l0.step)]
theorem ok30 : ∀ n, EnvOK Tryz.prog (env tabs fns30 [] n) := envOK_K ok29 mixed Tryz.func209 (by kernel_rfl) (by kernel_rfl) (S := S209) (loops := lp209) [] [] (by kernel_rfl) (fun n => (.cons (fun L x => by kernel_rfl) .nil)) (fun n x => by kernel_rfl)
/-! shunter/shape.Header -/
def S189 : Sm := { ins := y366, k := 2, outs := y221, fresh := [], F := fun n x => shape_Header n x.1 x.2.1 x.2.2.1 }
def fns31 : List (FuncId × Sm) := (189, S189) :: fns30
def lp189 : List (Nat × AM.Loop) := []
theorem ok31 : ∀ n, EnvOK Tryz.prog (env tabs fns31 [] n) := envOK_K ok30 mixed Tryz.func189 (by kernel_rfl) (by kernel_rfl) (S := S189) (loops := lp189) [] [] (by kernel_rfl) (fun n => .nil) (fun n x => by kernel_rfl)
/-! shunter/image.Slot -/
def S148 : Sm := { ins := y73, k := 2, outs := y221, fresh := [], F := fun n x => image_Slot n x.1 x.2.1 }
def fns32 : List (FuncId × Sm) := (148, S148) :: fns31
def lp148 : List (Nat × AM.Loop) := []
theorem ok32 : ∀ n, EnvOK Tryz.prog (env tabs fns32 [] n) := envOK_K ok31 mixed Tryz.func148 (by kernel_rfl) (by kernel_rfl) (S := S148) (loops := lp148) [] [] (by kernel_rfl) (fun n => .nil) (fun n x => by kernel_rfl)
/-! (*shunter/image.checker).instance -/
def S181 : Sm := { ins := y416, k := 2, outs := y282, fresh := [], F := fun n x => image_checker_instance n x.1 x.2.1 }
def fns33 : List (FuncId × Sm) := (181, S181) :: fns32
def h181_0 : Tpl := ⟨43, [(1, .d (.int .i64)), (8, .d (.int .i64)), (26, .d y14), (27, .d (.int .i64)), (28, .d (.int .i64))], []⟩
def o181_0 : Outs := .cons (.exit 0) ⟨43, [], []⟩ (.last .ret ⟨43, [(4, .d (.int .i64)), (5, .d .bool)], []⟩)
def lp181 : List (Nat × AM.Loop) := [(0, pLoop h181_0 o181_0 image_checker_instance.l0.step)]
theorem ok33 : ∀ n, EnvOK Tryz.prog (env tabs fns33 [] n) := envOK_K ok32 mixed Tryz.func181 (by kernel_rfl) (by kernel_rfl) (S := S181) (loops := lp181) [] [] (by kernel_rfl) (fun n => (.cons (fun L x => by kernel_rfl) .nil)) (fun n x => by kernel_rfl)
/-! shunter/shape.First -/
def S204 : Sm := { ins := y365, k := 2, outs := y282, fresh := [], F := fun n x => shape_First n x.1 x.2.1 }
def fns34 : List (FuncId × Sm) := (204, S204) :: fns33
def lp204 : List (Nat × AM.Loop) := []
theorem ok34 : ∀ n, EnvOK Tryz.prog (env tabs fns34 [] n) := envOK_K ok33 mixed Tryz.func204 (by kernel_rfl) (by kernel_rfl) (S := S204) (loops := lp204) [] [] (by kernel_rfl) (fun n => .nil) (fun n x => by kernel_rfl)
/-! shunter/image.Stacked -/
def S182 : Sm := { ins := y73, k := 3, outs := y355, fresh := [], F := fun n x => image_Stacked n x.1 x.2.1 }
def fns35 : List (FuncId × Sm) := (182, S182) :: fns34
def lp182 : List (Nat × AM.Loop) := []
theorem ok35 : ∀ n, EnvOK Tryz.prog (env tabs fns35 [] n) := envOK_K ok34 mixed Tryz.func182 (by kernel_rfl) (by kernel_rfl) (S := S182) (loops := lp182) [] [] (by kernel_rfl) (fun n => .nil) (fun n x => by kernel_rfl)
/-! (*shunter/image.checker).ext -/
def S135 : Sm := { ins := y417, k := 1, outs := (.int .i64), fresh := [], F := fun n x => image_checker_ext n x.1 x.2.1 }
def fns36 : List (FuncId × Sm) := (135, S135) :: fns35
def lp135 : List (Nat × AM.Loop) := []
theorem ok36 : ∀ n, EnvOK Tryz.prog (env tabs fns36 [] n) := envOK_K ok35 mixed Tryz.func135 (by kernel_rfl) (by kernel_rfl) (S := S135) (loops := lp135) [] [] (by kernel_rfl) (fun n => .nil) (fun n x => by kernel_rfl)
/-! shunter/image.Field -/
def S150 : Sm := { ins := y228, k := 2, outs := y282, fresh := [], F := fun n x => image_Field n x.1 x.2.1 x.2.2.1 }
def fns37 : List (FuncId × Sm) := (150, S150) :: fns36
def lp150 : List (Nat × AM.Loop) := []
theorem ok37 : ∀ n, EnvOK Tryz.prog (env tabs fns37 [] n) := envOK_K ok36 mixed Tryz.func150 (by kernel_rfl) (by kernel_rfl) (S := S150) (loops := lp150) [] [] (by kernel_rfl) (fun n => .nil) (fun n x => by kernel_rfl)
/-! shunter/image.given -/
def S214 : Sm := { ins := .unit, k := 1, outs := y394, fresh := [], F := fun n x => image_given n }
def fns38 : List (FuncId × Sm) := (214, S214) :: fns37
def lp214 : List (Nat × AM.Loop) := []
theorem ok38 : ∀ n, EnvOK Tryz.prog (env tabs fns38 [] n) := envOK_K ok37 mixed Tryz.func214 (by kernel_rfl) (by kernel_rfl) (S := S214) (loops := lp214) [] [] (by kernel_rfl) (fun n => .nil) (fun n x => by kernel_rfl)
/-! shunter/image.Meta -/
def S205 : Sm := { ins := y73, k := 2, outs := y282, fresh := [], F := fun n x => image_Meta n x.1 x.2.1 }
def fns39 : List (FuncId × Sm) := (205, S205) :: fns38
def lp205 : List (Nat × AM.Loop) := []
theorem ok39 : ∀ n, EnvOK Tryz.prog (env tabs fns39 [] n) := envOK_K ok38 mixed Tryz.func205 (by kernel_rfl) (by kernel_rfl) (S := S205) (loops := lp205) [] [] (by kernel_rfl) (fun n => .nil) (fun n x => by kernel_rfl)
/-! shunter/image.part -/
def S183 : Sm := { ins := y357, k := 2, outs := y282, fresh := [], F := fun n x => image_part n x.1 x.2.1 }
def fns40 : List (FuncId × Sm) := (183, S183) :: fns39
def lp183 : List (Nat × AM.Loop) := []
theorem ok40 : ∀ n, EnvOK Tryz.prog (env tabs fns40 [] n) := envOK_K ok39 mixed Tryz.func183 (by kernel_rfl) (by kernel_rfl) (S := S183) (loops := lp183) [] [] (by kernel_rfl) (fun n => .nil) (fun n x => by kernel_rfl)
end Ch
end
