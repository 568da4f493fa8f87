/- Helper: each function of the program computes its plain function (for PackCodesUptoSaid). No condition. -/
import Derived.Test.YtljalgiimnbheaaGreatF1
import Derived.Test.YtljalgiimnbheaaGreatC1
set_option linter.all false
section
open Go Go.AM Go.Proofs Pl
namespace Ch
/-! slices.Index[[]int,int] -/
def S187 : Sm := { ins := y315, k := 1, outs := (.int .i64), fresh := [], F := fun n x => slices_Index_int_int n x.1 x.2.1 }
def fns81 : List (FuncId × Sm) := (187, S187) :: fns80
def h187_0 : Tpl := ⟨19, [(0, .d y28), (1, .d (.int .i64)), (7, .d (.int .i64)), (8, .d (.int .i64))], []⟩
def o187_0 : Outs := .cons (.exit 0) ⟨19, [], []⟩ (.last .ret ⟨19, [(4, .d (.int .i64))], []⟩)
def lp187 : List (Nat × AM.Loop) := [(0, pLoop h187_0 o187_0 slices_Index_int_int.l0.step)]
theorem ok81 : ∀ n, EnvOK Tryz.prog (env tabs fns81 [] n) := envOK_K ok80 mixed Tryz.func187 (by kernel_rfl) (by kernel_rfl) (S := S187) (loops := lp187) [] [] (by kernel_rfl) (fun n => (.cons (fun L x => by kernel_rfl) .nil)) (fun n x => by kernel_rfl)
/-! slices.Contains[[]int,int] -/
def S144 : Sm := { ins := y315, k := 1, outs := .bool, fresh := [], F := fun n x => slices_Contains_int_int n x.1 x.2.1 }
def fns82 : List (FuncId × Sm) := (144, S144) :: fns81
def lp144 : List (Nat × AM.Loop) := []
theorem ok82 : ∀ n, EnvOK Tryz.prog (env tabs fns82 [] n) := envOK_K ok81 mixed Tryz.func144 (by kernel_rfl) (by kernel_rfl) (S := S144) (loops := lp144) [] [] (by kernel_rfl) (fun n => .nil) (fun n x => by kernel_rfl)
/-! (*shunter/image.checker).calls -/
def S143 : Sm := { ins := y423, k := 1, outs := (.int .i64), fresh := [], F := fun n x => image_checker_calls n x.1 x.2.1 }
def fns83 : List (FuncId × Sm) := (143, S143) :: fns82
def h143_0 : Tpl := ⟨39, [(0, .d y147), (1, .d y28), (10, .d y28), (11, .d (.int .i64)), (12, .d (.int .i64))], []⟩
def o143_0 : Outs := .cons (.exit 0) ⟨39, [(1, .d y28)], []⟩ (.last .ret ⟨39, [(4, .d (.int .i64))], []⟩)
def lp143 : List (Nat × AM.Loop) := [(0, pLoop h143_0 o143_0 image_checker_calls.l0.step)]
theorem ok83 : ∀ n, EnvOK Tryz.prog (env tabs fns83 [] n) := envOK_K ok82 mixed Tryz.func143 (by kernel_rfl) (by kernel_rfl) (S := S143) (loops := lp143) [] [] (by kernel_rfl) (fun n => (.cons (fun L x => by kernel_rfl) .nil)) (fun n x => by kernel_rfl)
/-! (*shunter/image.checker).args -/
def S145 : Sm := { ins := y424, k := 1, outs := (.int .i64), fresh := [], F := fun n x => image_checker_args n x.1 x.2.1 x.2.2.1 }
def fns84 : List (FuncId × Sm) := (145, S145) :: fns83
def h145_0 : Tpl := ⟨44, [(7, .d y28), (24, .d y38), (25, .d (.int .i64)), (26, .d (.int .i64))], []⟩
def o145_0 : Outs := .cons (.exit 0) ⟨44, [], []⟩ (.last .ret ⟨44, [(6, .d (.int .i64))], []⟩)
def lp145 : List (Nat × AM.Loop) := [(0, pLoop h145_0 o145_0 image_checker_args.l0.step)]
theorem ok84 : ∀ n, EnvOK Tryz.prog (env tabs fns84 [] n) := envOK_K ok83 mixed Tryz.func145 (by kernel_rfl) (by kernel_rfl) (S := S145) (loops := lp145) [] [] (by kernel_rfl) (fun n => (.cons (fun L x => by kernel_rfl) .nil)) (fun n x => by kernel_rfl)
/-! (*shunter/image.checker).table -/
def S89 : Sm := { ins := y416, k := 1, outs := (.int .i64), fresh := [], F := fun n x => image_checker_table n x.1 x.2.1 }
def fns85 : List (FuncId × Sm) := (89, S89) :: fns84
def lp89 : List (Nat × AM.Loop) := []
theorem ok85 : ∀ n, EnvOK Tryz.prog (env tabs fns85 [] n) := envOK_K ok84 mixed Tryz.func89 (by kernel_rfl) (by kernel_rfl) (S := S89) (loops := lp89) [] [2] (by kernel_rfl) (fun n => .nil) (fun n x => by kernel_rfl)
/-! (*shunter/image.checker).names -/
def S188 : Sm := { ins := y425, k := 1, outs := .bool, fresh := [], F := fun n x => image_checker_names n x.1 x.2.1 }
def fns86 : List (FuncId × Sm) := (188, S188) :: fns85
def lp188 : List (Nat × AM.Loop) := []
theorem ok86 : ∀ n, EnvOK Tryz.prog (env tabs fns86 [] n) := envOK_K ok85 mixed Tryz.func188 (by kernel_rfl) (by kernel_rfl) (S := S188) (loops := lp188) [] [] (by kernel_rfl) (fun n => .nil) (fun n x => by kernel_rfl)
/-! (*shunter/image.checker).node -/
def S147 : Sm := { ins := y426, k := 1, outs := (.int .i64), fresh := [], F := fun n x => image_checker_node n x.1 x.2.1 x.2.2.1 x.2.2.2.1 }
def fns87 : List (FuncId × Sm) := (147, S147) :: fns86
def lp147 : List (Nat × AM.Loop) := []
theorem ok87 : ∀ n, EnvOK Tryz.prog (env tabs fns87 [] n) := envOK_K ok86 mixed Tryz.func147 (by kernel_rfl) (by kernel_rfl) (S := S147) (loops := lp147) [] [] (by kernel_rfl) (fun n => .nil) (fun n x => by kernel_rfl)
/-! (*shunter/image.checker).nodes$1 -/
def S146 : Sm := { ins := y430, k := 1, outs := (.int .i64), fresh := [], F := fun n x => image_checker_nodes_1 n x.1 x.2.1 x.2.2.1 }
def fns88 : List (FuncId × Sm) := (146, S146) :: fns87
def lp146 : List (Nat × AM.Loop) := []
theorem ok88 : ∀ n, EnvOK Tryz.prog (env tabs fns88 [] n) := envOK_K ok87 mixed Tryz.func146 (by kernel_rfl) (by kernel_rfl) (S := S146) (loops := lp146) [] [] (by kernel_rfl) (fun n => .nil) (fun n x => by kernel_rfl)
/-! (*shunter/image.checker).nodes -/
def S90 : Sm := { ins := y431, k := 2, outs := y76, fresh := [], F := fun n x => image_checker_nodes n x.1 x.2.1 }
def fns89 : List (FuncId × Sm) := (90, S90) :: fns88
def lp90 : List (Nat × AM.Loop) := []
theorem ok89 : ∀ n, EnvOK Tryz.prog (env tabs fns89 [] n) := envOK_K ok88 mixed Tryz.func90 (by kernel_rfl) (by kernel_rfl) (S := S90) (loops := lp90) [] [2, 3] (by kernel_rfl) (fun n => .nil) (fun n x => by kernel_rfl)
/-! (*shunter/image.checker).out -/
def S91 : Sm := { ins := y416, k := 1, outs := (.int .i64), fresh := [], F := fun n x => image_checker_out n x.1 x.2.1 }
def fns90 : List (FuncId × Sm) := (91, S91) :: fns89
def h91_0 : Tpl := ⟨57, [(0, .d y147), (1, .d (.int .i64)), (6, .d .bool), (7, .d .bool), (25, .d (.int .i64)), (26, .d (.int .i64))], []⟩
def o91_0 : Outs := .last (.exit 0) ⟨57, [(6, .d .bool), (7, .d .bool)], []⟩
def lp91 : List (Nat × AM.Loop) := [(0, pLoop h91_0 o91_0 image_checker_out.l0.step)]
theorem ok90 : ∀ n, EnvOK Tryz.prog (env tabs fns90 [] n) := envOK_K ok89 mixed Tryz.func91 (by kernel_rfl) (by kernel_rfl) (S := S91) (loops := lp91) [] [] (by kernel_rfl) (fun n => (.cons (fun L x => by kernel_rfl) .nil)) (fun n x => by kernel_rfl)
/-! shunter/shape.ahead -/
def S190 : Sm := { ins := y319, k := 2, outs := y282, fresh := [], F := fun n x => shape_ahead n x.1 x.2.1 }
def fns91 : List (FuncId × Sm) := (190, S190) :: fns90
def h190_0 : Tpl := ⟨22, [(2, .c (.ref 2 0 [])), (6, .d (.int .i64)), (8, .d (.int .i64)), (9, .d (.int .i64))], [(2, .box y11 [.d .str, .d y6, .d (.int .i64), .d (.int .i64), .d (.int .i64), .d (.int .i64)] false)]⟩
def o190_0 : Outs := .last (.exit 0) ⟨22, [(6, .d (.int .i64))], []⟩
def lp190 : List (Nat × AM.Loop) := [(0, pLoop h190_0 o190_0 shape_ahead.l0.step)]
theorem ok91 : ∀ n, EnvOK Tryz.prog (env tabs fns91 [] n) := envOK_K ok90 mixed Tryz.func190 (by kernel_rfl) (by kernel_rfl) (S := S190) (loops := lp190) [] [] (by kernel_rfl) (fun n => (.cons (fun L x => by kernel_rfl) .nil)) (fun n x => by kernel_rfl)
/-! shunter/shape.Offset -/
def S151 : Sm := { ins := y319, k := 2, outs := y282, fresh := [], F := fun n x => shape_Offset n x.1 x.2.1 }
def fns92 : List (FuncId × Sm) := (151, S151) :: fns91
def lp151 : List (Nat × AM.Loop) := []
theorem ok92 : ∀ n, EnvOK Tryz.prog (env tabs fns92 [] n) := envOK_K ok91 mixed Tryz.func151 (by kernel_rfl) (by kernel_rfl) (S := S151) (loops := lp151) [] [] (by kernel_rfl) (fun n => .nil) (fun n x => by kernel_rfl)
/-! (*shunter/image.checker).sums$1 -/
def S149 : Sm := { ins := y435, k := 1, outs := (.int .i64), fresh := [], F := fun n x => image_checker_sums_1 n x.1 x.2.1 x.2.2.1 }
def fns93 : List (FuncId × Sm) := (149, S149) :: fns92
def lp149 : List (Nat × AM.Loop) := []
theorem ok93 : ∀ n, EnvOK Tryz.prog (env tabs fns93 [] n) := envOK_K ok92 mixed Tryz.func149 (by kernel_rfl) (by kernel_rfl) (S := S149) (loops := lp149) [] [] (by kernel_rfl) (fun n => .nil) (fun n x => by kernel_rfl)
/-! (*shunter/image.checker).sums -/
def S92 : Sm := { ins := y436, k := 2, outs := y76, fresh := [], F := fun n x => image_checker_sums n x.1 x.2.1 }
def fns94 : List (FuncId × Sm) := (92, S92) :: fns93
def lp92 : List (Nat × AM.Loop) := []
theorem ok94 : ∀ n, EnvOK Tryz.prog (env tabs fns94 [] n) := envOK_K ok93 mixed Tryz.func92 (by kernel_rfl) (by kernel_rfl) (S := S92) (loops := lp92) [] [2, 3] (by kernel_rfl) (fun n => .nil) (fun n x => by kernel_rfl)
/-! (*shunter/image.checker).reg$1 -/
def S152 : Sm := { ins := y415, k := 1, outs := .str, fresh := [], F := fun n x => image_checker_reg_1 n x.1 x.2.1 }
def fns95 : List (FuncId × Sm) := (152, S152) :: fns94
def lp152 : List (Nat × AM.Loop) := []
theorem ok95 : ∀ n, EnvOK Tryz.prog (env tabs fns95 [] n) := envOK_K ok94 mixed Tryz.func152 (by kernel_rfl) (by kernel_rfl) (S := S152) (loops := lp152) [] [] (by kernel_rfl) (fun n => .nil) (fun n x => by kernel_rfl)
/-! shunter/image.log -/
def S153 : Sm := { ins := y4, k := 1, outs := (.int .i64), fresh := [], F := fun n x => image_log n x.1 }
def fns96 : List (FuncId × Sm) := (153, S153) :: fns95
def lp153 : List (Nat × AM.Loop) := []
theorem ok96 : ∀ n, EnvOK Tryz.prog (env tabs fns96 [] n) := envOK_K ok95 mixed Tryz.func153 (by kernel_rfl) (by kernel_rfl) (S := S153) (loops := lp153) [] [] (by kernel_rfl) (fun n => .nil) (fun n x => by kernel_rfl)
/-! (*shunter/image.checker).reg -/
def S93 : Sm := { ins := y416, k := 1, outs := (.int .i64), fresh := [], F := fun n x => image_checker_reg n x.1 x.2.1 }
def fns97 : List (FuncId × Sm) := (93, S93) :: fns96
def lp93 : List (Nat × AM.Loop) := []
theorem ok97 : ∀ n, EnvOK Tryz.prog (env tabs fns97 [] n) := envOK_K ok96 mixed Tryz.func93 (by kernel_rfl) (by kernel_rfl) (S := S93) (loops := lp93) [] [2] (by kernel_rfl) (fun n => .nil) (fun n x => by kernel_rfl)
/-! (*shunter/image.checker).counter$1 -/
def S154 : Sm := { ins := y415, k := 1, outs := .str, fresh := [], F := fun n x => image_checker_counter_1 n x.1 x.2.1 }
def fns98 : List (FuncId × Sm) := (154, S154) :: fns97
def lp154 : List (Nat × AM.Loop) := []
theorem ok98 : ∀ n, EnvOK Tryz.prog (env tabs fns98 [] n) := envOK_K ok97 mixed Tryz.func154 (by kernel_rfl) (by kernel_rfl) (S := S154) (loops := lp154) [] [] (by kernel_rfl) (fun n => .nil) (fun n x => by kernel_rfl)
/-! (*shunter/image.checker).counter -/
def S94 : Sm := { ins := y416, k := 1, outs := (.int .i64), fresh := [], F := fun n x => image_checker_counter n x.1 x.2.1 }
def fns99 : List (FuncId × Sm) := (94, S94) :: fns98
def lp94 : List (Nat × AM.Loop) := []
theorem ok99 : ∀ n, EnvOK Tryz.prog (env tabs fns99 [] n) := envOK_K ok98 mixed Tryz.func94 (by kernel_rfl) (by kernel_rfl) (S := S94) (loops := lp94) [] [2] (by kernel_rfl) (fun n => .nil) (fun n x => by kernel_rfl)
/-! (*shunter/image.checker).meter$1 -/
def S155 : Sm := { ins := y415, k := 1, outs := .str, fresh := [], F := fun n x => image_checker_meter_1 n x.1 x.2.1 }
def fns100 : List (FuncId × Sm) := (155, S155) :: fns99
def lp155 : List (Nat × AM.Loop) := []
theorem ok100 : ∀ n, EnvOK Tryz.prog (env tabs fns100 [] n) := envOK_K ok99 mixed Tryz.func155 (by kernel_rfl) (by kernel_rfl) (S := S155) (loops := lp155) [] [] (by kernel_rfl) (fun n => .nil) (fun n x => by kernel_rfl)
end Ch
end

section
open Go Go.AM Go.Proofs Pl
namespace Ch
/-! (*shunter/image.checker).meter -/
def S95 : Sm := { ins := y416, k := 1, outs := (.int .i64), fresh := [], F := fun n x => image_checker_meter n x.1 x.2.1 }
def fns101 : List (FuncId × Sm) := (95, S95) :: fns100
def lp95 : List (Nat × AM.Loop) := []
theorem ok101 : ∀ n, EnvOK Tryz.prog (env tabs fns101 [] n) := envOK_K ok100 mixed Tryz.func95 (by kernel_rfl) (by kernel_rfl) (S := S95) (loops := lp95) [] [2] (by kernel_rfl) (fun n => .nil) (fun n x => by kernel_rfl)
/-! (*shunter/image.checker).part -/
def S36 : Sm := { ins := y416, k := 2, outs := y76, fresh := [], F := fun n x => image_checker_part n x.1 x.2.1 }
def fns102 : List (FuncId × Sm) := (36, S36) :: fns101
def lp36 : List (Nat × AM.Loop) := []
theorem ok102 : ∀ n, EnvOK Tryz.prog (env tabs fns102 [] n) := envOK_K ok101 mixed Tryz.func36 (by kernel_rfl) (by kernel_rfl) (S := S36) (loops := lp36) [] [] (by kernel_rfl) (fun n => .nil) (fun n x => by kernel_rfl)
/-! shunter/image.Check -/
def S15 : Sm := { ins := y69, k := 1, outs := y91, fresh := [], F := fun n x => image_Check n x.1 }
def fns103 : List (FuncId × Sm) := (15, S15) :: fns102
def h15_0 : Tpl := ⟨28, [(3, .c (.ref 9 0 [])), (10, .d (.int .i64))], [(9, .box y69 [.d y68] false)]⟩
def o15_0 : Outs := .cons (.exit 0) ⟨28, [], []⟩ (.last .ret ⟨28, [(2, .d y91)], []⟩)
def lp15 : List (Nat × AM.Loop) := [(0, pLoop h15_0 o15_0 image_Check.l0.step)]
theorem ok103 : ∀ n, EnvOK Tryz.prog (env tabs fns103 [] n) := envOK_K ok102 mixed Tryz.func15 (by kernel_rfl) (by kernel_rfl) (S := S15) (loops := lp15) [] [25] (by kernel_rfl) (fun n => (.cons (fun L x => by kernel_rfl) .nil)) (fun n x => by kernel_rfl)
/-! bytes.Clone -/
def S119 : Sm := { ins := y291, k := 1, outs := y72, fresh := [some 5], F := fun n x => bytes_Clone n x.1 }
def fns104 : List (FuncId × Sm) := (119, S119) :: fns103
theorem ok104 : ∀ n, EnvOK Tryz.prog (env tabs fns104 [] n) := envOK_next ok103 (fun n => LibX.clone_sm n)
/-! shunter/wire.put -/
def S76 : Sm := { ins := y240, k := 1, outs := y72, fresh := [some 5], F := fun n x => wire_put n x.1 x.2.1 x.2.2.1 }
def fns105 : List (FuncId × Sm) := (76, S76) :: fns104
def h76_0 : Tpl := ⟨29, [(1, .d (.int .i64)), (2, .d (.int .i64)), (7, .c (.own 10 0)), (12, .d (.int .i64)), (13, .d (.int .i64))], [(10, .arr 5 (.int .u8) false)]⟩
def o76_0 : Outs := .last (.exit 0) ⟨29, [(7, .c (.own 10 0))], [(10, .arr 5 (.int .u8) false)]⟩
def lp76 : List (Nat × AM.Loop) := [(0, pLoop h76_0 o76_0 wire_put.l0.step)]
theorem ok105 : ∀ n, EnvOK Tryz.prog (env tabs fns105 [] n) := envOK_K ok104 mixed Tryz.func76 (by kernel_rfl) (by kernel_rfl) (S := S76) (loops := lp76) [] [] (by kernel_rfl) (fun n => (.cons (fun L x => by kernel_rfl) .nil)) (fun n x => by kernel_rfl)
/-! shunter/wire.Byte -/
def S33 : Sm := { ins := y139, k := 1, outs := y72, fresh := [], F := fun n x => wire_Byte n x.1 x.2.1 }
def fns106 : List (FuncId × Sm) := (33, S33) :: fns105
def lp33 : List (Nat × AM.Loop) := []
theorem ok106 : ∀ n, EnvOK Tryz.prog (env tabs fns106 [] n) := envOK_K ok105 mixed Tryz.func33 (by kernel_rfl) (by kernel_rfl) (S := S33) (loops := lp33) [] [] (by kernel_rfl) (fun n => .nil) (fun n x => by kernel_rfl)
/-! shunter/wire.Name -/
def S37 : Sm := { ins := y149, k := 1, outs := y72, fresh := [some 5], F := fun n x => wire_Name n x.1 x.2.1 }
def fns107 : List (FuncId × Sm) := (37, S37) :: fns106
def lp37 : List (Nat × AM.Loop) := []
theorem ok107 : ∀ n, EnvOK Tryz.prog (env tabs fns107 [] n) := envOK_K ok106 mixed Tryz.func37 (by kernel_rfl) (by kernel_rfl) (S := S37) (loops := lp37) [] [] (by kernel_rfl) (fun n => .nil) (fun n x => by kernel_rfl)
/-! shunter/pack.list[shunter/api.Header] -/
def S38 : Sm := { ins := y156, k := 1, outs := y72, fresh := [], F := fun n x => pack_list_api_Header n x.1 x.2.1 x.2.2.1 }
def fns108 : List (FuncId × Sm) := (38, S38) :: fns107
def h38_0 : Tpl := ⟨25, [(0, .d y72), (2, .d y153), (13, .d y12), (14, .d (.int .i64)), (15, .d (.int .i64))], []⟩
def o38_0 : Outs := .last (.exit 0) ⟨25, [(0, .d y72)], []⟩
def lp38 : List (Nat × AM.Loop) := [(0, pLoop h38_0 o38_0 pack_list_api_Header.l0.step)]
theorem ok108 : ∀ n, EnvOK Tryz.prog (env tabs fns108 [] n) := envOK_K ok107 mixed Tryz.func38 (by kernel_rfl) (by kernel_rfl) (S := S38) (loops := lp38) [] [] (by kernel_rfl) (fun n => (.cons (fun L x => by kernel_rfl) .nil)) (fun n x => by kernel_rfl)
/-! shunter/pack.list[shunter/api.Field] -/
def S42 : Sm := { ins := y170, k := 1, outs := y72, fresh := [], F := fun n x => pack_list_api_Field n x.1 x.2.1 x.2.2.1 }
def fns109 : List (FuncId × Sm) := (42, S42) :: fns108
def h42_0 : Tpl := ⟨25, [(0, .d y72), (2, .d y167), (13, .d y6), (14, .d (.int .i64)), (15, .d (.int .i64))], []⟩
def o42_0 : Outs := .last (.exit 0) ⟨25, [(0, .d y72)], []⟩
def lp42 : List (Nat × AM.Loop) := [(0, pLoop h42_0 o42_0 pack_list_api_Field.l0.step)]
theorem ok109 : ∀ n, EnvOK Tryz.prog (env tabs fns109 [] n) := envOK_K ok108 mixed Tryz.func42 (by kernel_rfl) (by kernel_rfl) (S := S42) (loops := lp42) [] [] (by kernel_rfl) (fun n => (.cons (fun L x => by kernel_rfl) .nil)) (fun n x => by kernel_rfl)
/-! shunter/pack.field -/
def S43 : Sm := { ins := y166, k := 1, outs := y72, fresh := [], F := fun n x => pack_field n x.1 x.2.1 }
def fns110 : List (FuncId × Sm) := (43, S43) :: fns109
def lp43 : List (Nat × AM.Loop) := []
theorem ok110 : ∀ n, EnvOK Tryz.prog (env tabs fns110 [] n) := envOK_K ok109 mixed Tryz.func43 (by kernel_rfl) (by kernel_rfl) (S := S43) (loops := lp43) [] [] (by kernel_rfl) (fun n => .nil) (fun n x => by kernel_rfl)
/-! shunter/wire.Two -/
def S96 : Sm := { ins := y139, k := 1, outs := y72, fresh := [some 5], F := fun n x => wire_Two n x.1 x.2.1 }
def fns111 : List (FuncId × Sm) := (96, S96) :: fns110
def lp96 : List (Nat × AM.Loop) := []
theorem ok111 : ∀ n, EnvOK Tryz.prog (env tabs fns111 [] n) := envOK_K ok110 mixed Tryz.func96 (by kernel_rfl) (by kernel_rfl) (S := S96) (loops := lp96) [] [] (by kernel_rfl) (fun n => .nil) (fun n x => by kernel_rfl)
/-! shunter/pack.header -/
def S39 : Sm := { ins := y152, k := 1, outs := y72, fresh := [], F := fun n x => pack_header n x.1 x.2.1 }
def fns112 : List (FuncId × Sm) := (39, S39) :: fns111
def lp39 : List (Nat × AM.Loop) := []
theorem ok112 : ∀ n, EnvOK Tryz.prog (env tabs fns112 [] n) := envOK_K ok111 mixed Tryz.func39 (by kernel_rfl) (by kernel_rfl) (S := S39) (loops := lp39) [] [] (by kernel_rfl) (fun n => .nil) (fun n x => by kernel_rfl)
/-! shunter/pack.list[shunter/api.Inst] -/
def S40 : Sm := { ins := y163, k := 1, outs := y72, fresh := [], F := fun n x => pack_list_api_Inst n x.1 x.2.1 x.2.2.1 }
def fns113 : List (FuncId × Sm) := (40, S40) :: fns112
def h40_0 : Tpl := ⟨25, [(0, .d y72), (2, .d y160), (13, .d y14), (14, .d (.int .i64)), (15, .d (.int .i64))], []⟩
def o40_0 : Outs := .last (.exit 0) ⟨25, [(0, .d y72)], []⟩
def lp40 : List (Nat × AM.Loop) := [(0, pLoop h40_0 o40_0 pack_list_api_Inst.l0.step)]
theorem ok113 : ∀ n, EnvOK Tryz.prog (env tabs fns113 [] n) := envOK_K ok112 mixed Tryz.func40 (by kernel_rfl) (by kernel_rfl) (S := S40) (loops := lp40) [] [] (by kernel_rfl) (fun n => (.cons (fun L x => by kernel_rfl) .nil)) (fun n x => by kernel_rfl)
/-! shunter/pack.inst -/
def S41 : Sm := { ins := y159, k := 1, outs := y72, fresh := [], F := fun n x => pack_inst n x.1 x.2.1 }
def fns114 : List (FuncId × Sm) := (41, S41) :: fns113
def lp41 : List (Nat × AM.Loop) := []
theorem ok114 : ∀ n, EnvOK Tryz.prog (env tabs fns114 [] n) := envOK_K ok113 mixed Tryz.func41 (by kernel_rfl) (by kernel_rfl) (S := S41) (loops := lp41) [] [] (by kernel_rfl) (fun n => .nil) (fun n x => by kernel_rfl)
/-! shunter/pack.list[shunter/api.State] -/
def S44 : Sm := { ins := y176, k := 1, outs := y72, fresh := [], F := fun n x => pack_list_api_State n x.1 x.2.1 x.2.2.1 }
def fns115 : List (FuncId × Sm) := (44, S44) :: fns114
def h44_0 : Tpl := ⟨25, [(0, .d y72), (2, .d y173), (13, .d y27), (14, .d (.int .i64)), (15, .d (.int .i64))], []⟩
def o44_0 : Outs := .last (.exit 0) ⟨25, [(0, .d y72)], []⟩
def lp44 : List (Nat × AM.Loop) := [(0, pLoop h44_0 o44_0 pack_list_api_State.l0.step)]
theorem ok115 : ∀ n, EnvOK Tryz.prog (env tabs fns115 [] n) := envOK_K ok114 mixed Tryz.func44 (by kernel_rfl) (by kernel_rfl) (S := S44) (loops := lp44) [] [] (by kernel_rfl) (fun n => (.cons (fun L x => by kernel_rfl) .nil)) (fun n x => by kernel_rfl)
/-! shunter/pack.list[shunter/api.Ext] -/
def S97 : Sm := { ins := y206, k := 1, outs := y72, fresh := [], F := fun n x => pack_list_api_Ext n x.1 x.2.1 x.2.2.1 }
def fns116 : List (FuncId × Sm) := (97, S97) :: fns115
def h97_0 : Tpl := ⟨25, [(0, .d y72), (2, .d y203), (13, .d y15), (14, .d (.int .i64)), (15, .d (.int .i64))], []⟩
def o97_0 : Outs := .last (.exit 0) ⟨25, [(0, .d y72)], []⟩
def lp97 : List (Nat × AM.Loop) := [(0, pLoop h97_0 o97_0 pack_list_api_Ext.l0.step)]
theorem ok116 : ∀ n, EnvOK Tryz.prog (env tabs fns116 [] n) := envOK_K ok115 mixed Tryz.func97 (by kernel_rfl) (by kernel_rfl) (S := S97) (loops := lp97) [] [] (by kernel_rfl) (fun n => (.cons (fun L x => by kernel_rfl) .nil)) (fun n x => by kernel_rfl)
/-! shunter/pack.state$1 -/
def S98 : Sm := { ins := y202, k := 1, outs := y72, fresh := [], F := fun n x => pack_state_1 n x.1 x.2.1 }
def fns117 : List (FuncId × Sm) := (98, S98) :: fns116
def lp98 : List (Nat × AM.Loop) := []
theorem ok117 : ∀ n, EnvOK Tryz.prog (env tabs fns117 [] n) := envOK_K ok116 mixed Tryz.func98 (by kernel_rfl) (by kernel_rfl) (S := S98) (loops := lp98) [] [] (by kernel_rfl) (fun n => .nil) (fun n x => by kernel_rfl)
/-! shunter/pack.list[shunter/api.Key] -/
def S99 : Sm := { ins := y262, k := 1, outs := y72, fresh := [], F := fun n x => pack_list_api_Key n x.1 x.2.1 x.2.2.1 }
def fns118 : List (FuncId × Sm) := (99, S99) :: fns117
def h99_0 : Tpl := ⟨25, [(0, .d y72), (2, .d y259), (13, .d y16), (14, .d (.int .i64)), (15, .d (.int .i64))], []⟩
def o99_0 : Outs := .last (.exit 0) ⟨25, [(0, .d y72)], []⟩
def lp99 : List (Nat × AM.Loop) := [(0, pLoop h99_0 o99_0 pack_list_api_Key.l0.step)]
theorem ok118 : ∀ n, EnvOK Tryz.prog (env tabs fns118 [] n) := envOK_K ok117 mixed Tryz.func99 (by kernel_rfl) (by kernel_rfl) (S := S99) (loops := lp99) [] [] (by kernel_rfl) (fun n => (.cons (fun L x => by kernel_rfl) .nil)) (fun n x => by kernel_rfl)
/-! shunter/pack.key -/
def S100 : Sm := { ins := y258, k := 1, outs := y72, fresh := [], F := fun n x => pack_key n x.1 x.2.1 }
def fns119 : List (FuncId × Sm) := (100, S100) :: fns118
def lp100 : List (Nat × AM.Loop) := []
theorem ok119 : ∀ n, EnvOK Tryz.prog (env tabs fns119 [] n) := envOK_K ok118 mixed Tryz.func100 (by kernel_rfl) (by kernel_rfl) (S := S100) (loops := lp100) [] [] (by kernel_rfl) (fun n => .nil) (fun n x => by kernel_rfl)
/-! shunter/pack.list[shunter/api.Case] -/
def S101 : Sm := { ins := y269, k := 1, outs := y72, fresh := [], F := fun n x => pack_list_api_Case n x.1 x.2.1 x.2.2.1 }
def fns120 : List (FuncId × Sm) := (101, S101) :: fns119
def h101_0 : Tpl := ⟨25, [(0, .d y72), (2, .d y266), (13, .d y22), (14, .d (.int .i64)), (15, .d (.int .i64))], []⟩
def o101_0 : Outs := .last (.exit 0) ⟨25, [(0, .d y72)], []⟩
def lp101 : List (Nat × AM.Loop) := [(0, pLoop h101_0 o101_0 pack_list_api_Case.l0.step)]
theorem ok120 : ∀ n, EnvOK Tryz.prog (env tabs fns120 [] n) := envOK_K ok119 mixed Tryz.func101 (by kernel_rfl) (by kernel_rfl) (S := S101) (loops := lp101) [] [] (by kernel_rfl) (fun n => (.cons (fun L x => by kernel_rfl) .nil)) (fun n x => by kernel_rfl)
end Ch
end
