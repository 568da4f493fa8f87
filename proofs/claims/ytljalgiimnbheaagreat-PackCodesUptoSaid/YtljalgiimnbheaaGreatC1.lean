/- Helper: each function of the program computes its plain function (for PackCodesUptoSaid). No condition. -/
import Derived.Test.YtljalgiimnbheaaGreatF1
import Derived.Test.YtljalgiimnbheaaGreatC0
set_option linter.all false
section
open Go Go.AM Go.Proofs Pl
namespace Ch
/-! shunter/image.Key -/
def S137 : Sm := { ins := y309, k := 2, outs := y282, fresh := [], F := fun n x => image_Key n x.1 x.2.1 }
def fns41 : List (FuncId × Sm) := (137, S137) :: fns40
def h137_0 : Tpl := ⟨37, [(2, .c (.ref 2 0 [])), (6, .d (.int .i64)), (11, .d y16), (12, .d (.int .i64)), (13, .d (.int .i64))], [(2, .box y68 [.d .str, .d y12, .d y14, .d y6, .d y27, .d y37, .d y46, .d y51, .d y51, .d y28, .d y15, .d y15, .d y14, .d y6, .d y53, .d (.int .i64), .d (.int .i64), .d (.int .i64)] false)]⟩
def o137_0 : Outs := .cons (.exit 0) ⟨37, [(6, .d (.int .i64))], []⟩ (.last .ret ⟨37, [(4, .d (.int .i64)), (5, .d .bool)], []⟩)
def lp137 : List (Nat × AM.Loop) := [(0, pLoop h137_0 o137_0 image_Key.l0.step)]
theorem ok41 : ∀ n, EnvOK Tryz.prog (env tabs fns41 [] n) := envOK_K ok40 mixed Tryz.func137 (by kernel_rfl) (by kernel_rfl) (S := S137) (loops := lp137) [] [] (by kernel_rfl) (fun n => (.cons (fun L x => by kernel_rfl) .nil)) (fun n x => by kernel_rfl)
/-! (*shunter/image.checker).key -/
def S136 : Sm := { ins := y418, k := 1, outs := (.int .i64), fresh := [], F := fun n x => image_checker_key n x.1 x.2.1 x.2.2.1 }
def fns42 : List (FuncId × Sm) := (136, S136) :: fns41
def h136_0 : Tpl := ⟨81, [(0, .d y147), (1, .d y16), (2, .d .bool), (16, .d y16), (17, .d (.int .i64)), (18, .d (.int .i64))], []⟩
def o136_0 : Outs := .cons (.exit 0) ⟨81, [(0, .d y147), (1, .d y16)], []⟩ (.last .ret ⟨81, [(6, .d (.int .i64))], []⟩)
def lp136 : List (Nat × AM.Loop) := [(0, pLoop h136_0 o136_0 image_checker_key.l0.step)]
theorem ok42 : ∀ n, EnvOK Tryz.prog (env tabs fns42 [] n) := envOK_K ok41 mixed Tryz.func136 (by kernel_rfl) (by kernel_rfl) (S := S136) (loops := lp136) [] [] (by kernel_rfl) (fun n => (.cons (fun L x => by kernel_rfl) .nil)) (fun n x => by kernel_rfl)
/-! shunter/vec.Word -/
def S123 : Sm := { ins := y29, k := 1, outs := y18, fresh := [], F := fun n x => vec_Word n x.1 }
def fns43 : List (FuncId × Sm) := (123, S123) :: fns42
def lp123 : List (Nat × AM.Loop) := []
theorem ok43 : ∀ n, EnvOK Tryz.prog (env tabs fns43 [] n) := envOK_K ok42 mixed Tryz.func123 (by kernel_rfl) (by kernel_rfl) (S := S123) (loops := lp123) [] [] (by kernel_rfl) (fun n => .nil) (fun n x => by kernel_rfl)
/-! shunter/vec.width -/
def S169 : Sm := { ins := y4, k := 1, outs := .bool, fresh := [], F := fun n x => vec_width n x.1 }
def fns44 : List (FuncId × Sm) := (169, S169) :: fns43
def lp169 : List (Nat × AM.Loop) := []
theorem ok44 : ∀ n, EnvOK Tryz.prog (env tabs fns44 [] n) := envOK_K ok43 mixed Tryz.func169 (by kernel_rfl) (by kernel_rfl) (S := S169) (loops := lp169) [] [] (by kernel_rfl) (fun n => .nil) (fun n x => by kernel_rfl)
/-! math/bits.Len64 -/
def S199 : Sm := { ins := y17, k := 1, outs := (.int .i64), fresh := [], F := fun n x => math_bits_Len64 n x.1 }
def fns45 : List (FuncId × Sm) := (199, S199) :: fns44
theorem ok45 : ∀ n, EnvOK Tryz.prog (env tabs fns45 [] n) := envOK_next ok44 (fun n => LibX.len64_sm n)
/-! shunter/word.Len -/
def S170 : Sm := { ins := y342, k := 1, outs := (.int .i64), fresh := [], F := fun n x => word_Len n x.1 }
def fns46 : List (FuncId × Sm) := (170, S170) :: fns45
def lp170 : List (Nat × AM.Loop) := []
theorem ok46 : ∀ n, EnvOK Tryz.prog (env tabs fns46 [] n) := envOK_K ok45 mixed Tryz.func170 (by kernel_rfl) (by kernel_rfl) (S := S170) (loops := lp170) [] [] (by kernel_rfl) (fun n => .nil) (fun n x => by kernel_rfl)
/-! shunter/vec.May -/
def S120 : Sm := { ins := y29, k := 1, outs := .bool, fresh := [], F := fun n x => vec_May n x.1 }
def fns47 : List (FuncId × Sm) := (120, S120) :: fns46
def lp120 : List (Nat × AM.Loop) := []
theorem ok47 : ∀ n, EnvOK Tryz.prog (env tabs fns47 [] n) := envOK_K ok46 mixed Tryz.func120 (by kernel_rfl) (by kernel_rfl) (S := S120) (loops := lp120) [] [] (by kernel_rfl) (fun n => .nil) (fun n x => by kernel_rfl)
/-! (*shunter/image.checker).next -/
def S139 : Sm := { ins := y416, k := 1, outs := (.int .i64), fresh := [], F := fun n x => image_checker_next n x.1 x.2.1 }
def fns48 : List (FuncId × Sm) := (139, S139) :: fns47
def lp139 : List (Nat × AM.Loop) := []
theorem ok48 : ∀ n, EnvOK Tryz.prog (env tabs fns48 [] n) := envOK_K ok47 mixed Tryz.func139 (by kernel_rfl) (by kernel_rfl) (S := S139) (loops := lp139) [] [] (by kernel_rfl) (fun n => .nil) (fun n x => by kernel_rfl)
/-! shunter/word.And -/
def S207 : Sm := { ins := y380, k := 1, outs := y18, fresh := [], F := fun n x => word_And n x.1 x.2.1 }
def fns49 : List (FuncId × Sm) := (207, S207) :: fns48
def lp207 : List (Nat × AM.Loop) := []
theorem ok49 : ∀ n, EnvOK Tryz.prog (env tabs fns49 [] n) := envOK_K ok48 mixed Tryz.func207 (by kernel_rfl) (by kernel_rfl) (S := S207) (loops := lp207) [] [] (by kernel_rfl) (fun n => .nil) (fun n x => by kernel_rfl)
/-! shunter/vec.row -/
def S222 : Sm := { ins := y396, k := 1, outs := y19, fresh := [], F := fun n x => vec_row n x.1 x.2.1 }
def fns50 : List (FuncId × Sm) := (222, S222) :: fns49
def lp222 : List (Nat × AM.Loop) := []
theorem ok50 : ∀ n, EnvOK Tryz.prog (env tabs fns50 [] n) := envOK_K ok49 mixed Tryz.func222 (by kernel_rfl) (by kernel_rfl) (S := S222) (loops := lp222) [] [] (by kernel_rfl) (fun n => .nil) (fun n x => by kernel_rfl)
/-! shunter/word.Shr -/
def S122r0 : Sm := { ins := y293, k := 1, outs := y18, fresh := [], F := fun n x => word_Shr.r0 n x.1 x.2.1 }
def fns51 : List (FuncId × Sm) := (122, S122r0) :: fns50
theorem ok51 : ∀ n, EnvOK Tryz.prog (env tabs fns51 [] n) := envOK_next ok50 (fun n => by intro w X x y vs ds _ _ _ h; cases h)
/-! shunter/word.Shl -/
def S171r0 : Sm := { ins := y293, k := 1, outs := y18, fresh := [], F := fun n x => word_Shl.r0 n x.1 x.2.1 }
def fns52 : List (FuncId × Sm) := (171, S171r0) :: fns51
theorem ok52 : ∀ n, EnvOK Tryz.prog (env tabs fns52 [] n) := envOK_next ok51 (fun n => by intro w X x y vs ds _ _ _ h; cases h)
/-! shunter/word.Shl -/
def S171r1 : Sm := { ins := y293, k := 1, outs := y18, fresh := [], F := fun n x => word_Shl.r1 n x.1 x.2.1 }
def fns53 : List (FuncId × Sm) := (171, S171r1) :: fns52
def lp171r1 : List (Nat × AM.Loop) := []
theorem ok53 : ∀ n, EnvOK Tryz.prog (env tabs fns53 [] n) := envOK_K ok52 mixed Tryz.func171 (by kernel_rfl) (by kernel_rfl) (S := S171r1) (loops := lp171r1) [] [] (by kernel_rfl) (fun n => .nil) (fun n x => by kernel_rfl)
/-! shunter/word.Shr -/
def S122r1 : Sm := { ins := y293, k := 1, outs := y18, fresh := [], F := fun n x => word_Shr.r1 n x.1 x.2.1 }
def fns54 : List (FuncId × Sm) := (122, S122r1) :: fns53
def lp122r1 : List (Nat × AM.Loop) := []
theorem ok54 : ∀ n, EnvOK Tryz.prog (env tabs fns54 [] n) := envOK_K ok53 mixed Tryz.func122 (by kernel_rfl) (by kernel_rfl) (S := S122r1) (loops := lp122r1) [] [] (by kernel_rfl) (fun n => .nil) (fun n x => by kernel_rfl)
/-! shunter/word.Shl -/
def S171r2 : Sm := { ins := y293, k := 1, outs := y18, fresh := [], F := fun n x => word_Shl n x.1 x.2.1 }
def fns55 : List (FuncId × Sm) := (171, S171r2) :: fns54
def lp171r2 : List (Nat × AM.Loop) := []
theorem ok55 : ∀ n, EnvOK Tryz.prog (env tabs fns55 [] n) := envOK_K ok54 mixed Tryz.func171 (by kernel_rfl) (by kernel_rfl) (S := S171r2) (loops := lp171r2) [] [] (by kernel_rfl) (fun n => .nil) (fun n x => by kernel_rfl)
/-! shunter/word.Shr -/
def S122r2 : Sm := { ins := y293, k := 1, outs := y18, fresh := [], F := fun n x => word_Shr n x.1 x.2.1 }
def fns56 : List (FuncId × Sm) := (122, S122r2) :: fns55
def lp122r2 : List (Nat × AM.Loop) := []
theorem ok56 : ∀ n, EnvOK Tryz.prog (env tabs fns56 [] n) := envOK_K ok55 mixed Tryz.func122 (by kernel_rfl) (by kernel_rfl) (S := S122r2) (loops := lp122r2) [] [] (by kernel_rfl) (fun n => .nil) (fun n x => by kernel_rfl)
/-! shunter/word.Not -/
def S226 : Sm := { ins := y342, k := 1, outs := y18, fresh := [], F := fun n x => word_Not n x.1 }
def fns57 : List (FuncId × Sm) := (226, S226) :: fns56
def lp226 : List (Nat × AM.Loop) := []
theorem ok57 : ∀ n, EnvOK Tryz.prog (env tabs fns57 [] n) := envOK_K ok56 mixed Tryz.func226 (by kernel_rfl) (by kernel_rfl) (S := S226) (loops := lp226) [] [] (by kernel_rfl) (fun n => .nil) (fun n x => by kernel_rfl)
/-! math/bits.Sub64 -/
def S228 : Sm := { ins := y407, k := 2, outs := y389, fresh := [], F := fun n x => math_bits_Sub64 n x.1 x.2.1 x.2.2.1 }
def fns58 : List (FuncId × Sm) := (228, S228) :: fns57
theorem ok58 : ∀ n, EnvOK Tryz.prog (env tabs fns58 [] n) := envOK_next ok57 (fun n => LibX.sub64_sm n)
/-! shunter/word.Sub -/
def S227 : Sm := { ins := y380, k := 2, outs := y405, fresh := [], F := fun n x => word_Sub n x.1 x.2.1 }
def fns59 : List (FuncId × Sm) := (227, S227) :: fns58
def lp227 : List (Nat × AM.Loop) := []
theorem ok59 : ∀ n, EnvOK Tryz.prog (env tabs fns59 [] n) := envOK_K ok58 mixed Tryz.func227 (by kernel_rfl) (by kernel_rfl) (S := S227) (loops := lp227) [] [] (by kernel_rfl) (fun n => .nil) (fun n x => by kernel_rfl)
/-! shunter/word.Ones -/
def S223 : Sm := { ins := y4, k := 1, outs := y18, fresh := [], F := fun n x => word_Ones n x.1 }
def fns60 : List (FuncId × Sm) := (223, S223) :: fns59
def lp223 : List (Nat × AM.Loop) := []
theorem ok60 : ∀ n, EnvOK Tryz.prog (env tabs fns60 [] n) := envOK_K ok59 mixed Tryz.func223 (by kernel_rfl) (by kernel_rfl) (S := S223) (loops := lp223) [] [] (by kernel_rfl) (fun n => .nil) (fun n x => by kernel_rfl)
end Ch
end

section
open Go Go.AM Go.Proofs Pl
namespace Ch
/-! shunter/vec.Cut -/
def S215 : Sm := { ins := y396, k := 2, outs := y332, fresh := [], F := fun n x => vec_Cut n x.1 x.2.1 }
def fns61 : List (FuncId × Sm) := (215, S215) :: fns60
def lp215 : List (Nat × AM.Loop) := []
theorem ok61 : ∀ n, EnvOK Tryz.prog (env tabs fns61 [] n) := envOK_K ok60 mixed Tryz.func215 (by kernel_rfl) (by kernel_rfl) (S := S215) (loops := lp215) [] [] (by kernel_rfl) (fun n => .nil) (fun n x => by kernel_rfl)
/-! shunter/vec.two -/
def S206 : Sm := { ins := y384, k := 2, outs := y332, fresh := [], F := fun n x => vec_two n x.1 x.2.1 x.2.2.1 }
def fns62 : List (FuncId × Sm) := (206, S206) :: fns61
def lp206 : List (Nat × AM.Loop) := []
theorem ok62 : ∀ n, EnvOK Tryz.prog (env tabs fns62 [] n) := envOK_K ok61 mixed Tryz.func206 (by kernel_rfl) (by kernel_rfl) (S := S206) (loops := lp206) [] [] (by kernel_rfl) (fun n => .nil) (fun n x => by kernel_rfl)
/-! shunter/vec.And -/
def S184 : Sm := { ins := y330, k := 2, outs := y332, fresh := [], F := fun n x => vec_And n x.1 x.2.1 }
def fns63 : List (FuncId × Sm) := (184, S184) :: fns62
def lp184 : List (Nat × AM.Loop) := []
theorem ok63 : ∀ n, EnvOK Tryz.prog (env tabs fns63 [] n) := envOK_K ok62 mixed Tryz.func184 (by kernel_rfl) (by kernel_rfl) (S := S184) (loops := lp184) [] [] (by kernel_rfl) (fun n => .nil) (fun n x => by kernel_rfl)
/-! (*shunter/image.checker).one -/
def S138 : Sm := { ins := y419, k := 1, outs := (.int .i64), fresh := [], F := fun n x => image_checker_one n x.1 x.2.1 x.2.2.1 }
def fns64 : List (FuncId × Sm) := (138, S138) :: fns63
def lp138 : List (Nat × AM.Loop) := []
theorem ok64 : ∀ n, EnvOK Tryz.prog (env tabs fns64 [] n) := envOK_K ok63 mixed Tryz.func138 (by kernel_rfl) (by kernel_rfl) (S := S138) (loops := lp138) [] [] (by kernel_rfl) (fun n => .nil) (fun n x => by kernel_rfl)
/-! (*shunter/image.checker).state -/
def S87 : Sm := { ins := y416, k := 1, outs := (.int .i64), fresh := [], F := fun n x => image_checker_state n x.1 x.2.1 }
def fns65 : List (FuncId × Sm) := (87, S87) :: fns64
def h87_0 : Tpl := ⟨105, [(2, .c (.ref 2 0 [])), (5, .c (.ref 5 0 [])), (38, .d y15), (39, .d (.int .i64)), (40, .d (.int .i64))], [(2, .box y147 [.d y147] true), (5, .box y26 [.d .str, .d y15, .d y16, .d y22, .d (.int .i64)] false)]⟩
def o87_0 : Outs := .cons (.exit 0) ⟨105, [(2, .c (.ref 2 0 [])), (5, .c (.ref 5 0 []))], [(2, .box y147 [.d y147] true), (5, .box y26 [.d .str, .d y15, .d y16, .d y22, .d (.int .i64)] false)]⟩ (.last .ret ⟨105, [(4, .d (.int .i64))], []⟩)
def h87_2 : Tpl := ⟨105, [(2, .c (.ref 2 0 [])), (5, .c (.ref 5 0 [])), (11, .d (.int .i64)), (87, .d y22), (88, .d (.int .i64)), (89, .d (.int .i64))], [(2, .box y147 [.d y147] true), (5, .box y26 [.d .str, .d y15, .d y16, .d y22, .d (.int .i64)] false)]⟩
def o87_2 : Outs := .cons (.exit 2) ⟨105, [(2, .c (.ref 2 0 [])), (5, .c (.ref 5 0 []))], [(2, .box y147 [.d y147] true), (5, .box y26 [.d .str, .d y15, .d y16, .d y22, .d (.int .i64)] false)]⟩ (.last .ret ⟨105, [(4, .d (.int .i64))], []⟩)
def lp87 : List (Nat × AM.Loop) := [(0, pLoop h87_0 o87_0 image_checker_state.l0.step), (2, pLoop h87_2 o87_2 image_checker_state.l2.step)]
theorem ok65 : ∀ n, EnvOK Tryz.prog (env tabs fns65 [] n) := envOK_K ok64 mixed Tryz.func87 (by kernel_rfl) (by kernel_rfl) (S := S87) (loops := lp87) [] [2] (by kernel_rfl) (fun n => (.cons (fun L x => by kernel_rfl) (.cons (fun L x => by kernel_rfl) .nil))) (fun n x => by kernel_rfl)
/-! (*shunter/image.checker).action$1 -/
def S140 : Sm := { ins := y415, k := 1, outs := .str, fresh := [], F := fun n x => image_checker_action_1 n x.1 x.2.1 }
def fns66 : List (FuncId × Sm) := (140, S140) :: fns65
def lp140 : List (Nat × AM.Loop) := []
theorem ok66 : ∀ n, EnvOK Tryz.prog (env tabs fns66 [] n) := envOK_K ok65 mixed Tryz.func140 (by kernel_rfl) (by kernel_rfl) (S := S140) (loops := lp140) [] [] (by kernel_rfl) (fun n => .nil) (fun n x => by kernel_rfl)
/-! shunter/code.known -/
def S166 : Sm := { ins := y4, k := 1, outs := .bool, fresh := [], F := fun n x => code_known n x.1 }
def fns67 : List (FuncId × Sm) := (166, S166) :: fns66
def lp166 : List (Nat × AM.Loop) := []
theorem ok67 : ∀ n, EnvOK Tryz.prog (env tabs fns67 [] n) := envOK_K ok66 mixed Tryz.func166 (by kernel_rfl) (by kernel_rfl) (S := S166) (loops := lp166) [] [] (by kernel_rfl) (fun n => .nil) (fun n x => by kernel_rfl)
/-! shunter/code.both -/
def S197 : Sm := { ins := y337, k := 1, outs := y340, fresh := [], F := fun n x => code_both n x.1 x.2.1 x.2.2.1 x.2.2.2.1 x.2.2.2.2.1 }
def fns68 : List (FuncId × Sm) := (197, S197) :: fns67
def lp197 : List (Nat × AM.Loop) := []
theorem ok68 : ∀ n, EnvOK Tryz.prog (env tabs fns68 [] n) := envOK_K ok67 mixed Tryz.func197 (by kernel_rfl) (by kernel_rfl) (S := S197) (loops := lp197) [] [] (by kernel_rfl) (fun n => .nil) (fun n x => by kernel_rfl)
/-! shunter/code.alone -/
def S198 : Sm := { ins := y9, k := 1, outs := y340, fresh := [], F := fun n x => code_alone n x.1 x.2.1 x.2.2.1 x.2.2.2.1 }
def fns69 : List (FuncId × Sm) := (198, S198) :: fns68
def lp198 : List (Nat × AM.Loop) := []
theorem ok69 : ∀ n, EnvOK Tryz.prog (env tabs fns69 [] n) := envOK_K ok68 mixed Tryz.func198 (by kernel_rfl) (by kernel_rfl) (S := S198) (loops := lp198) [] [] (by kernel_rfl) (fun n => .nil) (fun n x => by kernel_rfl)
/-! shunter/code.shapeOf -/
def S167 : Sm := { ins := y4, k := 1, outs := y340, fresh := [], F := fun n x => code_shapeOf n x.1 }
def fns70 : List (FuncId × Sm) := (167, S167) :: fns69
def lp167 : List (Nat × AM.Loop) := []
def k167_47 : Tpl := ⟨70, [(2, .c (.ref 2 0 []))], [(2, .box y340 [.d .bool, .d .bool, .d (.int .i64), .d (.int .i64), .d (.int .i64), .d (.int .i64), .d (.int .i64), .d (.int .i64)] false)]⟩
theorem ok70 : ∀ n, EnvOK Tryz.prog (env tabs fns70 [] n) := envOK_C ok69 mixed Tryz.func167 (by kernel_rfl) (by kernel_rfl) (S := S167) (loops := lp167) [] [] (by kernel_rfl) (by kernel_rfl) (fun n => .nil) (fun n => [(47, ⟨k167_47, code_shapeOf.c47 n⟩)]) (fun n => (.cons (fun x => by kernel_rfl) .nil)) (fun n x => by kernel_rfl)
/-! shunter/code.within -/
def S168 : Sm := { ins := y8, k := 1, outs := .bool, fresh := [], F := fun n x => code_within n x.1 x.2.1 x.2.2.1 }
def fns71 : List (FuncId × Sm) := (168, S168) :: fns70
def lp168 : List (Nat × AM.Loop) := []
theorem ok71 : ∀ n, EnvOK Tryz.prog (env tabs fns71 [] n) := envOK_K ok70 mixed Tryz.func168 (by kernel_rfl) (by kernel_rfl) (S := S168) (loops := lp168) [] [] (by kernel_rfl) (fun n => .nil) (fun n x => by kernel_rfl)
/-! shunter/code.May -/
def S117 : Sm := { ins := y81, k := 1, outs := (.int .i64), fresh := [], F := fun n x => code_May n x.1 }
def fns72 : List (FuncId × Sm) := (117, S117) :: fns71
def lp117 : List (Nat × AM.Loop) := []
theorem ok72 : ∀ n, EnvOK Tryz.prog (env tabs fns72 [] n) := envOK_K ok71 mixed Tryz.func117 (by kernel_rfl) (by kernel_rfl) (S := S117) (loops := lp117) [] [] (by kernel_rfl) (fun n => .nil) (fun n x => by kernel_rfl)
/-! shunter/code.Make -/
def S75 : Sm := { ins := y81, k := 2, outs := y238, fresh := [], F := fun n x => code_Make n x.1 }
def fns73 : List (FuncId × Sm) := (75, S75) :: fns72
def lp75 : List (Nat × AM.Loop) := []
def k75_40 : Tpl := ⟨109, [(1, .c (.ref 1 0 []))], [(1, .box y32 [.d (.int .i64), .d (.int .i64), .d (.int .i64), .d y19] false)]⟩
theorem ok73 : ∀ n, EnvOK Tryz.prog (env tabs fns73 [] n) := envOK_C ok72 mixed Tryz.func75 (by kernel_rfl) (by kernel_rfl) (S := S75) (loops := lp75) [] [] (by kernel_rfl) (by kernel_rfl) (fun n => .nil) (fun n => [(40, ⟨k75_40, code_Make.c40 n⟩)]) (fun n => (.cons (fun x => by kernel_rfl) .nil)) (fun n x => by kernel_rfl)
/-! shunter/code.All -/
def S32 : Sm := { ins := y34, k := 3, outs := y137, fresh := [], F := fun n x => code_All n x.1 }
def fns74 : List (FuncId × Sm) := (32, S32) :: fns73
def h32_0 : Tpl := ⟨41, [(0, .d y33), (5, .c (.own 33 0)), (14, .d y33), (15, .d (.int .i64)), (16, .d (.int .i64))], [(33, .arr 176 y135 false)]⟩
def o32_0 : Outs := .cons (.exit 0) ⟨41, [(0, .d y33), (5, .c (.own 33 0))], [(33, .arr 176 y135 false)]⟩ (.last .ret ⟨41, [(2, .d y136), (3, .d (.int .i64)), (4, .d (.int .i64))], []⟩)
def lp32 : List (Nat × AM.Loop) := [(0, pLoop h32_0 o32_0 code_All.l0.step)]
theorem ok74 : ∀ n, EnvOK Tryz.prog (env tabs fns74 [] n) := envOK_K ok73 mixed Tryz.func32 (by kernel_rfl) (by kernel_rfl) (S := S32) (loops := lp32) [] [] (by kernel_rfl) (fun n => (.cons (fun L x => by kernel_rfl) .nil)) (fun n x => by kernel_rfl)
/-! (*shunter/image.checker).cell -/
def S208 : Sm := { ins := y420, k := 1, outs := .bool, fresh := [], F := fun n x => image_checker_cell n x.1 x.2.1 x.2.2.1 }
def fns75 : List (FuncId × Sm) := (208, S208) :: fns74
def lp208 : List (Nat × AM.Loop) := []
theorem ok75 : ∀ n, EnvOK Tryz.prog (env tabs fns75 [] n) := envOK_K ok74 mixed Tryz.func208 (by kernel_rfl) (by kernel_rfl) (S := S208) (loops := lp208) [] [] (by kernel_rfl) (fun n => .nil) (fun n x => by kernel_rfl)
/-! (*shunter/image.checker).refers -/
def S185 : Sm := { ins := y421, k := 1, outs := .bool, fresh := [], F := fun n x => image_checker_refers n x.1 x.2.1 x.2.2.1 }
def fns76 : List (FuncId × Sm) := (185, S185) :: fns75
def lp185 : List (Nat × AM.Loop) := []
theorem ok76 : ∀ n, EnvOK Tryz.prog (env tabs fns76 [] n) := envOK_K ok75 mixed Tryz.func185 (by kernel_rfl) (by kernel_rfl) (S := S185) (loops := lp185) [] [] (by kernel_rfl) (fun n => .nil) (fun n x => by kernel_rfl)
/-! shunter/code.Target -/
def S186 : Sm := { ins := y244, k := 2, outs := y282, fresh := [], F := fun n x => code_Target n x.1 }
def fns77 : List (FuncId × Sm) := (186, S186) :: fns76
def lp186 : List (Nat × AM.Loop) := []
theorem ok77 : ∀ n, EnvOK Tryz.prog (env tabs fns77 [] n) := envOK_K ok76 mixed Tryz.func186 (by kernel_rfl) (by kernel_rfl) (S := S186) (loops := lp186) [] [] (by kernel_rfl) (fun n => .nil) (fun n x => by kernel_rfl)
/-! (*shunter/image.checker).code -/
def S141 : Sm := { ins := y422, k := 1, outs := (.int .i64), fresh := [], F := fun n x => image_checker_code n x.1 x.2.1 x.2.2.1 }
def fns78 : List (FuncId × Sm) := (141, S141) :: fns77
def h141_0 : Tpl := ⟨51, [(0, .d y147), (1, .d y33), (2, .d y28), (23, .d y136), (24, .d (.int .i64)), (25, .d (.int .i64))], []⟩
def o141_0 : Outs := .cons (.exit 0) ⟨51, [], []⟩ (.last .ret ⟨51, [(6, .d (.int .i64))], []⟩)
def lp141 : List (Nat × AM.Loop) := [(0, pLoop h141_0 o141_0 image_checker_code.l0.step)]
theorem ok78 : ∀ n, EnvOK Tryz.prog (env tabs fns78 [] n) := envOK_K ok77 mixed Tryz.func141 (by kernel_rfl) (by kernel_rfl) (S := S141) (loops := lp141) [] [] (by kernel_rfl) (fun n => (.cons (fun L x => by kernel_rfl) .nil)) (fun n x => by kernel_rfl)
/-! (*shunter/image.checker).action -/
def S88 : Sm := { ins := y416, k := 1, outs := (.int .i64), fresh := [], F := fun n x => image_checker_action n x.1 x.2.1 }
def fns79 : List (FuncId × Sm) := (88, S88) :: fns78
def h88_0 : Tpl := ⟨47, [(2, .c (.ref 2 0 [])), (5, .c (.ref 5 0 [])), (31, .d y28), (32, .d (.int .i64)), (33, .d (.int .i64))], [(2, .box y147 [.d y147] true), (5, .box y36 [.d .str, .d y28, .d y33] false)]⟩
def o88_0 : Outs := .cons (.exit 0) ⟨47, [(2, .c (.ref 2 0 [])), (5, .c (.ref 5 0 []))], [(2, .box y147 [.d y147] true), (5, .box y36 [.d .str, .d y28, .d y33] false)]⟩ (.last .ret ⟨47, [(4, .d (.int .i64))], []⟩)
def lp88 : List (Nat × AM.Loop) := [(0, pLoop h88_0 o88_0 image_checker_action.l0.step)]
theorem ok79 : ∀ n, EnvOK Tryz.prog (env tabs fns79 [] n) := envOK_K ok78 mixed Tryz.func88 (by kernel_rfl) (by kernel_rfl) (S := S88) (loops := lp88) [] [2] (by kernel_rfl) (fun n => (.cons (fun L x => by kernel_rfl) .nil)) (fun n x => by kernel_rfl)
/-! (*shunter/image.checker).table$1 -/
def S142 : Sm := { ins := y415, k := 1, outs := .str, fresh := [], F := fun n x => image_checker_table_1 n x.1 x.2.1 }
def fns80 : List (FuncId × Sm) := (142, S142) :: fns79
def lp142 : List (Nat × AM.Loop) := []
theorem ok80 : ∀ n, EnvOK Tryz.prog (env tabs fns80 [] n) := envOK_K ok79 mixed Tryz.func142 (by kernel_rfl) (by kernel_rfl) (S := S142) (loops := lp142) [] [] (by kernel_rfl) (fun n => .nil) (fun n x => by kernel_rfl)
end Ch
end
