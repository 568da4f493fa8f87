/- Helper: each function of the program computes its plain function (for PackCodesUptoSaid). No condition. -/
import Derived.Test.YtljalgiimnbheaaGreatF1
import Derived.Test.YtljalgiimnbheaaGreatC2
set_option linter.all false
section
open Go Go.AM Go.Proofs Pl
namespace Ch
/-! shunter/wire.room -/
def S121 : Sm := { ins := y4, k := 1, outs := (.int .i64), fresh := [], F := fun n x => wire_room n x.1 }
def fns121 : List (FuncId × Sm) := (121, S121) :: fns120
def lp121 : List (Nat × AM.Loop) := []
theorem ok121 : ∀ n, EnvOK Tryz.prog (env tabs fns121 [] n) := envOK_K ok120 mixed Tryz.func121 (by kernel_rfl) (by kernel_rfl) (S := S121) (loops := lp121) [] [] (by kernel_rfl) (fun n => .nil) (fun n x => by kernel_rfl)
/-! shunter/wire.Vec -/
def S77 : Sm := { ins := y242, k := 1, outs := y72, fresh := [some 5], F := fun n x => wire_Vec n x.1 x.2.1 }
def fns122 : List (FuncId × Sm) := (77, S77) :: fns121
def h77_0 : Tpl := ⟨35, [(3, .c (.ref 3 0 [])), (5, .c (.own 15 0)), (6, .d (.int .i64))], [(3, .box y19 [.d (.int .i64), .d (.int .u64), .d (.int .u64)] false), (15, .arr 5 (.int .u8) false)]⟩
def o77_0 : Outs := .last (.exit 0) ⟨35, [(5, .c (.own 15 0))], [(15, .arr 5 (.int .u8) false)]⟩
def lp77 : List (Nat × AM.Loop) := [(0, pLoop h77_0 o77_0 wire_Vec.l0.step)]
theorem ok122 : ∀ n, EnvOK Tryz.prog (env tabs fns122 [] n) := envOK_K ok121 mixed Tryz.func77 (by kernel_rfl) (by kernel_rfl) (S := S77) (loops := lp77) [] [] (by kernel_rfl) (fun n => (.cons (fun L x => by kernel_rfl) .nil)) (fun n x => by kernel_rfl)
/-! shunter/pack.next -/
def S103 : Sm := { ins := y139, k := 1, outs := y72, fresh := [], F := fun n x => pack_next n x.1 x.2.1 }
def fns123 : List (FuncId × Sm) := (103, S103) :: fns122
def lp103 : List (Nat × AM.Loop) := []
theorem ok123 : ∀ n, EnvOK Tryz.prog (env tabs fns123 [] n) := envOK_K ok122 mixed Tryz.func103 (by kernel_rfl) (by kernel_rfl) (S := S103) (loops := lp103) [] [] (by kernel_rfl) (fun n => .nil) (fun n x => by kernel_rfl)
/-! shunter/pack.state$2 -/
def S102 : Sm := { ins := y265, k := 1, outs := y72, fresh := [], F := fun n x => pack_state_2 n x.1 x.2.1 }
def fns124 : List (FuncId × Sm) := (102, S102) :: fns123
def lp102 : List (Nat × AM.Loop) := []
theorem ok124 : ∀ n, EnvOK Tryz.prog (env tabs fns124 [] n) := envOK_K ok123 mixed Tryz.func102 (by kernel_rfl) (by kernel_rfl) (S := S102) (loops := lp102) [] [] (by kernel_rfl) (fun n => .nil) (fun n x => by kernel_rfl)
/-! shunter/pack.state -/
def S45 : Sm := { ins := y172, k := 1, outs := y72, fresh := [], F := fun n x => pack_state n x.1 x.2.1 }
def fns125 : List (FuncId × Sm) := (45, S45) :: fns124
def lp45 : List (Nat × AM.Loop) := []
theorem ok125 : ∀ n, EnvOK Tryz.prog (env tabs fns125 [] n) := envOK_K ok124 mixed Tryz.func45 (by kernel_rfl) (by kernel_rfl) (S := S45) (loops := lp45) [] [] (by kernel_rfl) (fun n => .nil) (fun n x => by kernel_rfl)
/-! shunter/pack.list[shunter/api.Action] -/
def S46 : Sm := { ins := y183, k := 1, outs := y72, fresh := [], F := fun n x => pack_list_api_Action n x.1 x.2.1 x.2.2.1 }
def fns126 : List (FuncId × Sm) := (46, S46) :: fns125
def h46_0 : Tpl := ⟨25, [(0, .d y72), (2, .d y180), (13, .d y37), (14, .d (.int .i64)), (15, .d (.int .i64))], []⟩
def o46_0 : Outs := .last (.exit 0) ⟨25, [(0, .d y72)], []⟩
def lp46 : List (Nat × AM.Loop) := [(0, pLoop h46_0 o46_0 pack_list_api_Action.l0.step)]
theorem ok126 : ∀ n, EnvOK Tryz.prog (env tabs fns126 [] n) := envOK_K ok125 mixed Tryz.func46 (by kernel_rfl) (by kernel_rfl) (S := S46) (loops := lp46) [] [] (by kernel_rfl) (fun n => (.cons (fun L x => by kernel_rfl) .nil)) (fun n x => by kernel_rfl)
/-! shunter/pack.list[shunter/api.Ins] -/
def S34 : Sm := { ins := y145, k := 1, outs := y72, fresh := [], F := fun n x => pack_list_api_Ins n x.1 x.2.1 x.2.2.1 }
def fns127 : List (FuncId × Sm) := (34, S34) :: fns126
def h34_0 : Tpl := ⟨25, [(0, .d y72), (2, .d y142), (13, .d y33), (14, .d (.int .i64)), (15, .d (.int .i64))], []⟩
def o34_0 : Outs := .last (.exit 0) ⟨25, [(0, .d y72)], []⟩
def lp34 : List (Nat × AM.Loop) := [(0, pLoop h34_0 o34_0 pack_list_api_Ins.l0.step)]
theorem ok127 : ∀ n, EnvOK Tryz.prog (env tabs fns127 [] n) := envOK_K ok126 mixed Tryz.func34 (by kernel_rfl) (by kernel_rfl) (S := S34) (loops := lp34) [] [] (by kernel_rfl) (fun n => (.cons (fun L x => by kernel_rfl) .nil)) (fun n x => by kernel_rfl)
/-! shunter/code.Only -/
def S78 : Sm := { ins := y244, k := 1, outs := y29, fresh := [], F := fun n x => code_Only n x.1 }
def fns128 : List (FuncId × Sm) := (78, S78) :: fns127
def lp78 : List (Nat × AM.Loop) := []
theorem ok128 : ∀ n, EnvOK Tryz.prog (env tabs fns128 [] n) := envOK_K ok127 mixed Tryz.func78 (by kernel_rfl) (by kernel_rfl) (S := S78) (loops := lp78) [] [] (by kernel_rfl) (fun n => .nil) (fun n x => by kernel_rfl)
/-! shunter/pack.ins -/
def S35 : Sm := { ins := y141, k := 1, outs := y72, fresh := [], F := fun n x => pack_ins n x.1 x.2.1 }
def fns129 : List (FuncId × Sm) := (35, S35) :: fns128
def lp35 : List (Nat × AM.Loop) := []
theorem ok129 : ∀ n, EnvOK Tryz.prog (env tabs fns129 [] n) := envOK_K ok128 mixed Tryz.func35 (by kernel_rfl) (by kernel_rfl) (S := S35) (loops := lp35) [] [] (by kernel_rfl) (fun n => .nil) (fun n x => by kernel_rfl)
/-! shunter/pack.Code -/
def S12 : Sm := { ins := y84, k := 1, outs := y72, fresh := [], F := fun n x => pack_Code n x.1 x.2.1 }
def fns130 : List (FuncId × Sm) := (12, S12) :: fns129
def lp12 : List (Nat × AM.Loop) := []
theorem ok130 : ∀ n, EnvOK Tryz.prog (env tabs fns130 [] n) := envOK_K ok129 mixed Tryz.func12 (by kernel_rfl) (by kernel_rfl) (S := S12) (loops := lp12) [] [] (by kernel_rfl) (fun n => .nil) (fun n x => by kernel_rfl)
/-! shunter/wire.Numbers -/
def S52 : Sm := { ins := y199, k := 1, outs := y72, fresh := [some 5], F := fun n x => wire_Numbers n x.1 x.2.1 }
def fns131 : List (FuncId × Sm) := (52, S52) :: fns130
def h52_0 : Tpl := ⟨30, [(5, .c (.own 16 0)), (17, .d y28), (18, .d (.int .i64)), (19, .d (.int .i64))], [(16, .arr 5 (.int .u8) false)]⟩
def o52_0 : Outs := .last (.exit 0) ⟨30, [(5, .c (.own 16 0))], [(16, .arr 5 (.int .u8) false)]⟩
def lp52 : List (Nat × AM.Loop) := [(0, pLoop h52_0 o52_0 wire_Numbers.l0.step)]
theorem ok131 : ∀ n, EnvOK Tryz.prog (env tabs fns131 [] n) := envOK_K ok130 mixed Tryz.func52 (by kernel_rfl) (by kernel_rfl) (S := S52) (loops := lp52) [] [] (by kernel_rfl) (fun n => (.cons (fun L x => by kernel_rfl) .nil)) (fun n x => by kernel_rfl)
/-! shunter/pack.action -/
def S47 : Sm := { ins := y179, k := 1, outs := y72, fresh := [], F := fun n x => pack_action n x.1 x.2.1 }
def fns132 : List (FuncId × Sm) := (47, S47) :: fns131
def lp47 : List (Nat × AM.Loop) := []
theorem ok132 : ∀ n, EnvOK Tryz.prog (env tabs fns132 [] n) := envOK_K ok131 mixed Tryz.func47 (by kernel_rfl) (by kernel_rfl) (S := S47) (loops := lp47) [] [] (by kernel_rfl) (fun n => .nil) (fun n x => by kernel_rfl)
/-! shunter/pack.list[shunter/api.Table] -/
def S48 : Sm := { ins := y190, k := 1, outs := y72, fresh := [], F := fun n x => pack_list_api_Table n x.1 x.2.1 x.2.2.1 }
def fns133 : List (FuncId × Sm) := (48, S48) :: fns132
def h48_0 : Tpl := ⟨25, [(0, .d y72), (2, .d y187), (13, .d y46), (14, .d (.int .i64)), (15, .d (.int .i64))], []⟩
def o48_0 : Outs := .last (.exit 0) ⟨25, [(0, .d y72)], []⟩
def lp48 : List (Nat × AM.Loop) := [(0, pLoop h48_0 o48_0 pack_list_api_Table.l0.step)]
theorem ok133 : ∀ n, EnvOK Tryz.prog (env tabs fns133 [] n) := envOK_K ok132 mixed Tryz.func48 (by kernel_rfl) (by kernel_rfl) (S := S48) (loops := lp48) [] [] (by kernel_rfl) (fun n => (.cons (fun L x => by kernel_rfl) .nil)) (fun n x => by kernel_rfl)
/-! shunter/wire.Vecs -/
def S104 : Sm := { ins := y271, k := 1, outs := y72, fresh := [some 5], F := fun n x => wire_Vecs n x.1 x.2.1 }
def fns134 : List (FuncId × Sm) := (104, S104) :: fns133
def h104_0 : Tpl := ⟨28, [(5, .c (.own 16 0)), (17, .d y38), (18, .d (.int .i64)), (19, .d (.int .i64))], [(16, .arr 5 (.int .u8) false)]⟩
def o104_0 : Outs := .last (.exit 0) ⟨28, [(5, .c (.own 16 0))], [(16, .arr 5 (.int .u8) false)]⟩
def lp104 : List (Nat × AM.Loop) := [(0, pLoop h104_0 o104_0 wire_Vecs.l0.step)]
theorem ok134 : ∀ n, EnvOK Tryz.prog (env tabs fns134 [] n) := envOK_K ok133 mixed Tryz.func104 (by kernel_rfl) (by kernel_rfl) (S := S104) (loops := lp104) [(25, 16)] [] (by kernel_rfl) (fun n => (.cons (fun L x => by kernel_rfl) .nil)) (fun n x => by kernel_rfl)
/-! shunter/pack.table -/
def S49 : Sm := { ins := y186, k := 1, outs := y72, fresh := [], F := fun n x => pack_table n x.1 x.2.1 }
def fns135 : List (FuncId × Sm) := (49, S49) :: fns134
def lp49 : List (Nat × AM.Loop) := []
theorem ok135 : ∀ n, EnvOK Tryz.prog (env tabs fns135 [] n) := envOK_K ok134 mixed Tryz.func49 (by kernel_rfl) (by kernel_rfl) (S := S49) (loops := lp49) [] [] (by kernel_rfl) (fun n => .nil) (fun n x => by kernel_rfl)
/-! shunter/pack.list[shunter/api.Node] -/
def S50 : Sm := { ins := y197, k := 1, outs := y72, fresh := [], F := fun n x => pack_list_api_Node n x.1 x.2.1 x.2.2.1 }
def fns136 : List (FuncId × Sm) := (50, S50) :: fns135
def h50_0 : Tpl := ⟨25, [(0, .d y72), (2, .d y194), (13, .d y51), (14, .d (.int .i64)), (15, .d (.int .i64))], []⟩
def o50_0 : Outs := .last (.exit 0) ⟨25, [(0, .d y72)], []⟩
def lp50 : List (Nat × AM.Loop) := [(0, pLoop h50_0 o50_0 pack_list_api_Node.l0.step)]
theorem ok136 : ∀ n, EnvOK Tryz.prog (env tabs fns136 [] n) := envOK_K ok135 mixed Tryz.func50 (by kernel_rfl) (by kernel_rfl) (S := S50) (loops := lp50) [] [] (by kernel_rfl) (fun n => (.cons (fun L x => by kernel_rfl) .nil)) (fun n x => by kernel_rfl)
/-! shunter/pack.node -/
def S51 : Sm := { ins := y193, k := 1, outs := y72, fresh := [], F := fun n x => pack_node n x.1 x.2.1 }
def fns137 : List (FuncId × Sm) := (51, S51) :: fns136
def lp51 : List (Nat × AM.Loop) := []
theorem ok137 : ∀ n, EnvOK Tryz.prog (env tabs fns137 [] n) := envOK_K ok136 mixed Tryz.func51 (by kernel_rfl) (by kernel_rfl) (S := S51) (loops := lp51) [] [] (by kernel_rfl) (fun n => .nil) (fun n x => by kernel_rfl)
/-! shunter/pack.list[shunter/api.Sum] -/
def S53 : Sm := { ins := y206, k := 1, outs := y72, fresh := [], F := fun n x => pack_list_api_Sum n x.1 x.2.1 x.2.2.1 }
def fns138 : List (FuncId × Sm) := (53, S53) :: fns137
def h53_0 : Tpl := ⟨25, [(0, .d y72), (2, .d y203), (13, .d y15), (14, .d (.int .i64)), (15, .d (.int .i64))], []⟩
def o53_0 : Outs := .last (.exit 0) ⟨25, [(0, .d y72)], []⟩
def lp53 : List (Nat × AM.Loop) := [(0, pLoop h53_0 o53_0 pack_list_api_Sum.l0.step)]
theorem ok138 : ∀ n, EnvOK Tryz.prog (env tabs fns138 [] n) := envOK_K ok137 mixed Tryz.func53 (by kernel_rfl) (by kernel_rfl) (S := S53) (loops := lp53) [] [] (by kernel_rfl) (fun n => (.cons (fun L x => by kernel_rfl) .nil)) (fun n x => by kernel_rfl)
/-! shunter/pack.sum -/
def S54 : Sm := { ins := y202, k := 1, outs := y72, fresh := [], F := fun n x => pack_sum n x.1 x.2.1 }
def fns139 : List (FuncId × Sm) := (54, S54) :: fns138
def lp54 : List (Nat × AM.Loop) := []
theorem ok139 : ∀ n, EnvOK Tryz.prog (env tabs fns139 [] n) := envOK_K ok138 mixed Tryz.func54 (by kernel_rfl) (by kernel_rfl) (S := S54) (loops := lp54) [] [] (by kernel_rfl) (fun n => .nil) (fun n x => by kernel_rfl)
/-! shunter/pack.list[shunter/api.Reg] -/
def S55 : Sm := { ins := y163, k := 1, outs := y72, fresh := [], F := fun n x => pack_list_api_Reg n x.1 x.2.1 x.2.2.1 }
def fns140 : List (FuncId × Sm) := (55, S55) :: fns139
def h55_0 : Tpl := ⟨25, [(0, .d y72), (2, .d y160), (13, .d y14), (14, .d (.int .i64)), (15, .d (.int .i64))], []⟩
def o55_0 : Outs := .last (.exit 0) ⟨25, [(0, .d y72)], []⟩
def lp55 : List (Nat × AM.Loop) := [(0, pLoop h55_0 o55_0 pack_list_api_Reg.l0.step)]
theorem ok140 : ∀ n, EnvOK Tryz.prog (env tabs fns140 [] n) := envOK_K ok139 mixed Tryz.func55 (by kernel_rfl) (by kernel_rfl) (S := S55) (loops := lp55) [] [] (by kernel_rfl) (fun n => (.cons (fun L x => by kernel_rfl) .nil)) (fun n x => by kernel_rfl)
end Ch
end

section
open Go Go.AM Go.Proofs Pl
namespace Ch
/-! shunter/pack.reg -/
def S56 : Sm := { ins := y159, k := 1, outs := y72, fresh := [], F := fun n x => pack_reg n x.1 x.2.1 }
def fns141 : List (FuncId × Sm) := (56, S56) :: fns140
def lp56 : List (Nat × AM.Loop) := []
theorem ok141 : ∀ n, EnvOK Tryz.prog (env tabs fns141 [] n) := envOK_K ok140 mixed Tryz.func56 (by kernel_rfl) (by kernel_rfl) (S := S56) (loops := lp56) [] [] (by kernel_rfl) (fun n => .nil) (fun n x => by kernel_rfl)
/-! shunter/pack.list[shunter/api.Counter] -/
def S57 : Sm := { ins := y170, k := 1, outs := y72, fresh := [], F := fun n x => pack_list_api_Counter n x.1 x.2.1 x.2.2.1 }
def fns142 : List (FuncId × Sm) := (57, S57) :: fns141
def h57_0 : Tpl := ⟨25, [(0, .d y72), (2, .d y167), (13, .d y6), (14, .d (.int .i64)), (15, .d (.int .i64))], []⟩
def o57_0 : Outs := .last (.exit 0) ⟨25, [(0, .d y72)], []⟩
def lp57 : List (Nat × AM.Loop) := [(0, pLoop h57_0 o57_0 pack_list_api_Counter.l0.step)]
theorem ok142 : ∀ n, EnvOK Tryz.prog (env tabs fns142 [] n) := envOK_K ok141 mixed Tryz.func57 (by kernel_rfl) (by kernel_rfl) (S := S57) (loops := lp57) [] [] (by kernel_rfl) (fun n => (.cons (fun L x => by kernel_rfl) .nil)) (fun n x => by kernel_rfl)
/-! shunter/pack.counter -/
def S58 : Sm := { ins := y166, k := 1, outs := y72, fresh := [], F := fun n x => pack_counter n x.1 x.2.1 }
def fns143 : List (FuncId × Sm) := (58, S58) :: fns142
def lp58 : List (Nat × AM.Loop) := []
theorem ok143 : ∀ n, EnvOK Tryz.prog (env tabs fns143 [] n) := envOK_K ok142 mixed Tryz.func58 (by kernel_rfl) (by kernel_rfl) (S := S58) (loops := lp58) [] [] (by kernel_rfl) (fun n => .nil) (fun n x => by kernel_rfl)
/-! shunter/pack.list[shunter/api.Meter] -/
def S59 : Sm := { ins := y213, k := 1, outs := y72, fresh := [], F := fun n x => pack_list_api_Meter n x.1 x.2.1 x.2.2.1 }
def fns144 : List (FuncId × Sm) := (59, S59) :: fns143
def h59_0 : Tpl := ⟨25, [(0, .d y72), (2, .d y210), (13, .d y53), (14, .d (.int .i64)), (15, .d (.int .i64))], []⟩
def o59_0 : Outs := .last (.exit 0) ⟨25, [(0, .d y72)], []⟩
def lp59 : List (Nat × AM.Loop) := [(0, pLoop h59_0 o59_0 pack_list_api_Meter.l0.step)]
theorem ok144 : ∀ n, EnvOK Tryz.prog (env tabs fns144 [] n) := envOK_K ok143 mixed Tryz.func59 (by kernel_rfl) (by kernel_rfl) (S := S59) (loops := lp59) [] [] (by kernel_rfl) (fun n => (.cons (fun L x => by kernel_rfl) .nil)) (fun n x => by kernel_rfl)
/-! shunter/wire.Four -/
def S105 : Sm := { ins := y139, k := 1, outs := y72, fresh := [some 5], F := fun n x => wire_Four n x.1 x.2.1 }
def fns145 : List (FuncId × Sm) := (105, S105) :: fns144
def lp105 : List (Nat × AM.Loop) := []
theorem ok145 : ∀ n, EnvOK Tryz.prog (env tabs fns145 [] n) := envOK_K ok144 mixed Tryz.func105 (by kernel_rfl) (by kernel_rfl) (S := S105) (loops := lp105) [] [] (by kernel_rfl) (fun n => .nil) (fun n x => by kernel_rfl)
/-! shunter/pack.meter -/
def S60 : Sm := { ins := y209, k := 1, outs := y72, fresh := [], F := fun n x => pack_meter n x.1 x.2.1 }
def fns146 : List (FuncId × Sm) := (60, S60) :: fns145
def lp60 : List (Nat × AM.Loop) := []
theorem ok146 : ∀ n, EnvOK Tryz.prog (env tabs fns146 [] n) := envOK_K ok145 mixed Tryz.func60 (by kernel_rfl) (by kernel_rfl) (S := S60) (loops := lp60) [] [] (by kernel_rfl) (fun n => .nil) (fun n x => by kernel_rfl)
/-! shunter/pack.section -/
def S16 : Sm := { ins := y73, k := 1, outs := y72, fresh := [], F := fun n x => pack_section n x.1 x.2.1 }
def fns147 : List (FuncId × Sm) := (16, S16) :: fns146
def lp16 : List (Nat × AM.Loop) := []
theorem ok147 : ∀ n, EnvOK Tryz.prog (env tabs fns147 [] n) := envOK_K ok146 mixed Tryz.func16 (by kernel_rfl) (by kernel_rfl) (S := S16) (loops := lp16) [] [] (by kernel_rfl) (fun n => .nil) (fun n x => by kernel_rfl)
/-! shunter/pack.Section -/
def S7 : Sm := { ins := y73, k := 2, outs := y74, fresh := [], F := fun n x => pack_Section n x.1 x.2.1 }
def fns148 : List (FuncId × Sm) := (7, S7) :: fns147
def lp7 : List (Nat × AM.Loop) := []
theorem ok148 : ∀ n, EnvOK Tryz.prog (env tabs fns148 [] n) := envOK_K ok147 mixed Tryz.func7 (by kernel_rfl) (by kernel_rfl) (S := S7) (loops := lp7) [] [] (by kernel_rfl) (fun n => .nil) (fun n x => by kernel_rfl)
/-! shunter/shunterlaw11.least -/
def S14 : Sm := { ins := .unit, k := 1, outs := y68, fresh := [], F := fun n x => shunterlaw11_least n }
def fns149 : List (FuncId × Sm) := (14, S14) :: fns148
def lp14 : List (Nat × AM.Loop) := []
theorem ok149 : ∀ n, EnvOK Tryz.prog (env tabs fns149 [] n) := envOK_K ok148 mixed Tryz.func14 (by kernel_rfl) (by kernel_rfl) (S := S14) (loops := lp14) [] [] (by kernel_rfl) (fun n => .nil) (fun n x => by kernel_rfl)
/-! shunter/shunterlaw11.lives -/
def S6 : Sm := { ins := .unit, k := 1, outs := .bool, fresh := [], F := fun n x => shunterlaw11_lives n }
def fns150 : List (FuncId × Sm) := (6, S6) :: fns149
def lp6 : List (Nat × AM.Loop) := []
theorem ok150 : ∀ n, EnvOK Tryz.prog (env tabs fns150 [] n) := envOK_K ok149 mixed Tryz.func6 (by kernel_rfl) (by kernel_rfl) (S := S6) (loops := lp6) [] [] (by kernel_rfl) (fun n => .nil) (fun n x => by kernel_rfl)
/-! shunter/shunterref09.Table -/
def S29 : Sm := { ins := .unit, k := 1, outs := y121, fresh := [some 103], F := fun n x => shunterref09_Table n }
def fns151 : List (FuncId × Sm) := (29, S29) :: fns150
def lp29 : List (Nat × AM.Loop) := []
theorem ok151 : ∀ n, EnvOK Tryz.prog (env tabs fns151 [] n) := envOK_K ok150 mixed Tryz.func29 (by kernel_rfl) (by kernel_rfl) (S := S29) (loops := lp29) [] [] (by kernel_rfl) (fun n => .nil) (fun n x => by kernel_rfl)
/-! shunter/shunterref01.Len -/
def S72 : Sm := { ins := y235, k := 1, outs := (.int .i64), fresh := [], F := fun n x => shunterref01_Len n x.1 }
def fns152 : List (FuncId × Sm) := (72, S72) :: fns151
def h72_0 : Tpl := ⟨13, [(1, .c (.ref 1 0 [])), (3, .d (.int .i64))], [(1, .box y234 [.d y234] false)]⟩
def o72_0 : Outs := .cons (.exit 0) ⟨13, [], []⟩ (.last .ret ⟨13, [(2, .d (.int .i64))], []⟩)
def lp72 : List (Nat × AM.Loop) := [(0, pLoop h72_0 o72_0 shunterref01_Len.l0.step)]
theorem ok152 : ∀ n, EnvOK Tryz.prog (env tabs fns152 [] n) := envOK_K ok151 mixed Tryz.func72 (by kernel_rfl) (by kernel_rfl) (S := S72) (loops := lp72) [] [] (by kernel_rfl) (fun n => (.cons (fun L x => by kernel_rfl) .nil)) (fun n x => by kernel_rfl)
/-! shunter/shunterref01.Of -/
def S73 : Sm := { ins := y18, k := 1, outs := y234, fresh := [], F := fun n x => shunterref01_Of n x.1 x.2.1 }
def fns153 : List (FuncId × Sm) := (73, S73) :: fns152
def h73_0 : Tpl := ⟨27, [(0, .d (.int .u64)), (1, .d (.int .u64)), (4, .c (.ref 4 0 [])), (5, .c (.ref 5 0 [])), (6, .d (.int .i64))], [(4, .box y234 [.d y234] false), (5, .box y234 [.d y234] false)]⟩
def o73_0 : Outs := .last (.exit 0) ⟨27, [(4, .c (.ref 4 0 [])), (5, .c (.ref 5 0 []))], [(4, .box y234 [.d y234] false), (5, .box y234 [.d y234] false)]⟩
def lp73 : List (Nat × AM.Loop) := [(0, pLoop h73_0 o73_0 shunterref01_Of.l0.step)]
theorem ok153 : ∀ n, EnvOK Tryz.prog (env tabs fns153 [] n) := envOK_K ok152 mixed Tryz.func73 (by kernel_rfl) (by kernel_rfl) (S := S73) (loops := lp73) [] [] (by kernel_rfl) (fun n => (.cons (fun L x => by kernel_rfl) .nil)) (fun n x => by kernel_rfl)
/-! shunter/shunterref02.May -/
def S30 : Sm := { ins := y29, k := 1, outs := .bool, fresh := [], F := fun n x => shunterref02_May n x.1 }
def fns154 : List (FuncId × Sm) := (30, S30) :: fns153
def lp30 : List (Nat × AM.Loop) := []
theorem ok154 : ∀ n, EnvOK Tryz.prog (env tabs fns154 [] n) := envOK_K ok153 mixed Tryz.func30 (by kernel_rfl) (by kernel_rfl) (S := S30) (loops := lp30) [] [] (by kernel_rfl) (fun n => .nil) (fun n x => by kernel_rfl)
/-! shunter/shunterref09.May -/
def S10 : Sm := { ins := y81, k := 1, outs := (.int .i64), fresh := [], F := fun n x => shunterref09_May n x.1 }
def fns155 : List (FuncId × Sm) := (10, S10) :: fns154
def lp10 : List (Nat × AM.Loop) := []
theorem ok155 : ∀ n, EnvOK Tryz.prog (env tabs fns155 [] n) := envOK_K ok154 mixed Tryz.func10 (by kernel_rfl) (by kernel_rfl) (S := S10) (loops := lp10) [] [] (by kernel_rfl) (fun n => .nil) (fun n x => by kernel_rfl)
/-! shunter/shunterref02.Bits -/
def S69 : Sm := { ins := y29, k := 1, outs := y230, fresh := [some 4], F := fun n x => shunterref02_Bits n x.1 }
def fns156 : List (FuncId × Sm) := (69, S69) :: fns155
def h69_0 : Tpl := ⟨28, [(1, .c (.ref 1 0 [])), (3, .c (.ref 3 0 [])), (4, .c (.own 26 0)), (5, .d (.int .i64))], [(1, .box y19 [.d (.int .i64), .d (.int .u64), .d (.int .u64)] false), (3, .box y234 [.d y234] false), (26, .arr 4 .bool false)]⟩
def o69_0 : Outs := .last (.exit 0) ⟨28, [(4, .c (.own 26 0))], [(26, .arr 4 .bool false)]⟩
def lp69 : List (Nat × AM.Loop) := [(0, pLoop h69_0 o69_0 shunterref02_Bits.l0.step)]
theorem ok156 : ∀ n, EnvOK Tryz.prog (env tabs fns156 [] n) := envOK_K ok155 mixed Tryz.func69 (by kernel_rfl) (by kernel_rfl) (S := S69) (loops := lp69) [] [] (by kernel_rfl) (fun n => (.cons (fun L x => by kernel_rfl) .nil)) (fun n x => by kernel_rfl)
/-! shunter/shunterref03.Bytes -/
def S70 : Sm := { ins := y232, k := 1, outs := y72, fresh := [some 5], F := fun n x => shunterref03_Bytes n x.1 }
def fns157 : List (FuncId × Sm) := (70, S70) :: fns156
def h70_0 : Tpl := ⟨40, [(0, .d y230), (3, .c (.own 38 0)), (4, .d (.int .i64))], [(38, .arr 5 (.int .u8) false)]⟩
def o70_0 : Outs := .last (.exit 0) ⟨40, [(3, .c (.own 38 0))], [(38, .arr 5 (.int .u8) false)]⟩
def h70_2 : Tpl := ⟨40, [(0, .d y230), (3, .c (.own 38 0)), (4, .d (.int .i64)), (5, .d (.int .i64)), (6, .d (.int .i64))], [(38, .arr 5 (.int .u8) false)]⟩
def o70_2 : Outs := .last (.exit 2) ⟨40, [(0, .d y230), (3, .c (.own 38 0)), (4, .d (.int .i64)), (5, .d (.int .i64))], [(38, .arr 5 (.int .u8) false)]⟩
def lp70 : List (Nat × AM.Loop) := [(0, pLoop h70_0 o70_0 shunterref03_Bytes.l0.step), (2, pLoop h70_2 o70_2 shunterref03_Bytes.l2.step)]
theorem ok157 : ∀ n, EnvOK Tryz.prog (env tabs fns157 [] n) := envOK_K ok156 mixed Tryz.func70 (by kernel_rfl) (by kernel_rfl) (S := S70) (loops := lp70) [] [] (by kernel_rfl) (fun n => (.cons (fun L x => by kernel_rfl) (.cons (fun L x => by kernel_rfl) .nil))) (fun n x => by kernel_rfl)
/-! shunter/shunterref07.Number -/
def S22 : Sm := { ins := y7, k := 1, outs := y72, fresh := [some 5], F := fun n x => shunterref07_Number n x.1 x.2.1 }
def fns158 : List (FuncId × Sm) := (22, S22) :: fns157
def h22_0 : Tpl := ⟨28, [(5, .c (.own 11 0)), (6, .c (.own 25 0)), (7, .d (.int .i64))], [(11, .arr 4 .bool false), (25, .arr 4 .bool false)]⟩
def o22_0 : Outs := .last (.exit 0) ⟨28, [(6, .c (.own 25 0))], [(25, .arr 4 .bool false)]⟩
def lp22 : List (Nat × AM.Loop) := [(0, pLoop h22_0 o22_0 shunterref07_Number.l0.step)]
theorem ok158 : ∀ n, EnvOK Tryz.prog (env tabs fns158 [] n) := envOK_K ok157 mixed Tryz.func22 (by kernel_rfl) (by kernel_rfl) (S := S22) (loops := lp22) [] [] (by kernel_rfl) (fun n => (.cons (fun L x => by kernel_rfl) .nil)) (fun n x => by kernel_rfl)
/-! shunter/shunterref11.n1 -/
def S20 : Sm := { ins := y4, k := 1, outs := y72, fresh := [some 5], F := fun n x => shunterref11_n1 n x.1 }
def fns159 : List (FuncId × Sm) := (20, S20) :: fns158
def lp20 : List (Nat × AM.Loop) := []
theorem ok159 : ∀ n, EnvOK Tryz.prog (env tabs fns159 [] n) := envOK_K ok158 mixed Tryz.func20 (by kernel_rfl) (by kernel_rfl) (S := S20) (loops := lp20) [] [] (by kernel_rfl) (fun n => .nil) (fun n x => by kernel_rfl)
/-! shunter/shunterref03.Of -/
def S74 : Sm := { ins := y29, k := 1, outs := y230, fresh := [some 4], F := fun n x => shunterref03_Of n x.1 }
def fns160 : List (FuncId × Sm) := (74, S74) :: fns159
def h74_0 : Tpl := ⟨23, [(3, .c (.own 7 0)), (4, .c (.own 21 0)), (5, .d (.int .i64))], [(7, .arr 4 .bool false), (21, .arr 4 .bool false)]⟩
def o74_0 : Outs := .last (.exit 0) ⟨23, [(4, .c (.own 21 0))], [(21, .arr 4 .bool false)]⟩
def lp74 : List (Nat × AM.Loop) := [(0, pLoop h74_0 o74_0 shunterref03_Of.l0.step)]
theorem ok160 : ∀ n, EnvOK Tryz.prog (env tabs fns160 [] n) := envOK_K ok159 mixed Tryz.func74 (by kernel_rfl) (by kernel_rfl) (S := S74) (loops := lp74) [] [] (by kernel_rfl) (fun n => (.cons (fun L x => by kernel_rfl) .nil)) (fun n x => by kernel_rfl)
end Ch
end

section
open Go Go.AM Go.Proofs Pl
namespace Ch
/-! shunter/shunterref07.Vec -/
def S31 : Sm := { ins := y29, k := 1, outs := y72, fresh := [some 5], F := fun n x => shunterref07_Vec n x.1 }
def fns161 : List (FuncId × Sm) := (31, S31) :: fns160
def h31_0 : Tpl := ⟨30, [(1, .c (.ref 1 0 [])), (3, .c (.own 18 0))], [(1, .box y19 [.d (.int .i64), .d (.int .u64), .d (.int .u64)] false), (18, .arr 4 .bool false)]⟩
def o31_0 : Outs := .last (.exit 0) ⟨30, [(1, .c (.ref 1 0 [])), (3, .c (.own 18 0))], [(1, .box y19 [.d (.int .i64), .d (.int .u64), .d (.int .u64)] false), (18, .arr 4 .bool false)]⟩
def lp31 : List (Nat × AM.Loop) := [(0, pLoop h31_0 o31_0 shunterref07_Vec.l0.step)]
theorem ok161 : ∀ n, EnvOK Tryz.prog (env tabs fns161 [] n) := envOK_K ok160 mixed Tryz.func31 (by kernel_rfl) (by kernel_rfl) (S := S31) (loops := lp31) [] [] (by kernel_rfl) (fun n => (.cons (fun L x => by kernel_rfl) .nil)) (fun n x => by kernel_rfl)
/-! shunter/shunterref11.Code -/
def S11 : Sm := { ins := y34, k := 1, outs := y72, fresh := [some 5], F := fun n x => shunterref11_Code n x.1 }
def fns162 : List (FuncId × Sm) := (11, S11) :: fns161
def h11_0 : Tpl := ⟨65, [(0, .d y33), (3, .c (.own 8 0)), (4, .d (.int .i64))], [(8, .arr 5 (.int .u8) false)]⟩
def o11_0 : Outs := .last (.exit 0) ⟨65, [(3, .c (.own 8 0))], [(8, .arr 5 (.int .u8) false)]⟩
def lp11 : List (Nat × AM.Loop) := [(0, pLoop h11_0 o11_0 shunterref11_Code.l0.step)]
theorem ok162 : ∀ n, EnvOK Tryz.prog (env tabs fns162 [] n) := envOK_K ok161 mixed Tryz.func11 (by kernel_rfl) (by kernel_rfl) (S := S11) (loops := lp11) [] [] (by kernel_rfl) (fun n => (.cons (fun L x => by kernel_rfl) .nil)) (fun n x => by kernel_rfl)
/-! shunter/shunterlaw11.PackCodes -/
def S4 : Sm := { ins := y84, k := 1, outs := .bool, fresh := [], F := fun n x => shunterlaw11_PackCodes n x.1 x.2.1 }
def fns163 : List (FuncId × Sm) := (4, S4) :: fns162
def h4_0 : Tpl := ⟨61, [(0, .d y72), (1, .d y33), (5, .d .str), (6, .d .bool), (7, .d (.int .i64))], []⟩
def o4_0 : Outs := .last (.exit 0) ⟨61, [(0, .d y72), (1, .d y33), (5, .d .str), (6, .d .bool)], []⟩
def lp4 : List (Nat × AM.Loop) := [(0, pLoop h4_0 o4_0 shunterlaw11_PackCodes.l0.step)]
theorem ok163 : ∀ n, EnvOK Tryz.prog (env tabs fns163 [] n) := envOK_K ok162 mixed Tryz.func4 (by kernel_rfl) (by kernel_rfl) (S := S4) (loops := lp4) [] [] (by kernel_rfl) (fun n => (.cons (fun L x => by kernel_rfl) .nil)) (fun n x => by kernel_rfl)
end Ch
end
