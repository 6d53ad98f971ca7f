/-
  FACTS on the program's types, as rewriting rules (printed by wip/tools/facts.py). Own work.
-/
import Derived.KernelRfl
import Derived.Test.YtblejchodicaoaaGreatDoorJ3
import Derived.Test.YtblejchodicaoaaGreatDoorProg
import Derived.IntWalk
import Derived.Lib.ValidU
import Derived.Lib.ItoaNum
import Derived.Lib.Join
import Derived.Lib.RuneBytes
set_option linter.unusedVariables false
set_option linter.unusedSimpArgs false
namespace Go.Proofs.YtblejchodicaoaaGreatDoor.Eng
open Go Go.RowKit
set_option maxRecDepth 100000
@[simp] theorem fc_aggT_0 : aggT Tryz.prog 2 = some false ∧
  aggT Tryz.prog 3 = some false ∧
  aggT Tryz.prog 4 = some false ∧
  aggT Tryz.prog 5 = some false ∧
  aggT Tryz.prog 9 = some false ∧
  aggT Tryz.prog 22 = some false ∧
  aggT Tryz.prog 24 = some true ∧
  aggT Tryz.prog 25 = some false ∧
  aggT Tryz.prog 27 = some true ∧
  aggT Tryz.prog 28 = some false ∧
  aggT Tryz.prog 35 = some false ∧
  aggT Tryz.prog 41 = some false := by
  refine ⟨?_, ?_, ?_, ?_, ?_, ?_, ?_, ?_, ?_, ?_, ?_, ?_⟩ <;> rfl
@[simp] theorem fc_aggT_12 : aggT Tryz.prog 42 = some false ∧
  aggT Tryz.prog 43 = some false ∧
  aggT Tryz.prog 45 = some true ∧
  aggT Tryz.prog 48 = some false ∧
  aggT Tryz.prog 50 = some true ∧
  aggT Tryz.prog 62 = some false ∧
  aggT Tryz.prog 64 = some true ∧
  aggT Tryz.prog 70 = some true ∧
  aggT Tryz.prog 77 = some false ∧
  aggT Tryz.prog 78 = some false ∧
  aggT Tryz.prog 80 = some true ∧
  aggT Tryz.prog 82 = some true := by
  refine ⟨?_, ?_, ?_, ?_, ?_, ?_, ?_, ?_, ?_, ?_, ?_, ?_⟩ <;> rfl
@[simp] theorem fc_aggT_24 : aggT Tryz.prog 116 = some false ∧
  aggT Tryz.prog 119 = some false ∧
  aggT Tryz.prog 125 = some false ∧
  aggT Tryz.prog 137 = some false ∧
  aggT Tryz.prog 142 = some false ∧
  aggT Tryz.prog 157 = some true ∧
  aggT Tryz.prog 165 = some false ∧
  aggT Tryz.prog 171 = some false ∧
  aggT Tryz.prog 172 = some false ∧
  aggT Tryz.prog 173 = some false ∧
  aggT Tryz.prog 175 = some true ∧
  aggT Tryz.prog 177 = some true := by
  refine ⟨?_, ?_, ?_, ?_, ?_, ?_, ?_, ?_, ?_, ?_, ?_, ?_⟩ <;> rfl
@[simp] theorem fc_aggT_36 : aggT Tryz.prog 186 = some false ∧
  aggT Tryz.prog 201 = some false ∧
  aggT Tryz.prog 203 = some false ∧
  aggT Tryz.prog 205 = some false ∧
  aggT Tryz.prog 215 = some true ∧
  aggT Tryz.prog 228 = some true := by
  refine ⟨?_, ?_, ?_, ?_, ?_, ?_⟩ <;> rfl
@[simp] theorem fc_bytesT_0 : bytesT Tryz.prog 3 = some 8 ∧
  bytesT Tryz.prog 5 = some 1 ∧
  bytesT Tryz.prog 9 = some 16 ∧
  bytesT Tryz.prog 45 = some 88 ∧
  bytesT Tryz.prog 64 = some 112 ∧
  bytesT Tryz.prog 70 = some 104 ∧
  bytesT Tryz.prog 80 = some 264 := by
  refine ⟨?_, ?_, ?_, ?_, ?_, ?_, ?_⟩ <;> rfl
@[simp] theorem fc_cellsOf_0 : Tryz.prog.cellsOf 5 = 1 := by rfl
@[simp] theorem fc_concrete_0 : Tryz.prog.concrete 9 = true ∧
  Tryz.prog.concrete 28 = true := by
  refine ⟨?_, ?_⟩ <;> rfl
@[simp] theorem fc_elemT_0 : elemT Tryz.prog 25 = some 64 ∧
  elemT Tryz.prog 35 = some 5 ∧
  elemT Tryz.prog 42 = some 45 ∧
  elemT Tryz.prog 43 = some 70 ∧
  elemT Tryz.prog 48 = some 82 ∧
  elemT Tryz.prog 78 = some 80 ∧
  elemT Tryz.prog 129 = some 3 ∧
  elemT Tryz.prog 142 = some 9 ∧
  elemT Tryz.prog 154 = some 157 ∧
  elemT Tryz.prog 165 = some 177 := by
  refine ⟨?_, ?_, ?_, ?_, ?_, ?_, ?_, ?_, ?_, ?_⟩ <;> rfl
@[simp] theorem fc_fieldOff_0 : fieldOff Tryz.prog 24 0 = some (22, 0) ∧
  fieldOff Tryz.prog 24 1 = some (22, 1) ∧
  fieldOff Tryz.prog 27 0 = some (22, 0) ∧
  fieldOff Tryz.prog 27 1 = some (22, 1) ∧
  fieldOff Tryz.prog 27 2 = some (22, 2) ∧
  fieldOff Tryz.prog 27 3 = some (22, 3) ∧
  fieldOff Tryz.prog 27 4 = some (25, 4) ∧
  fieldOff Tryz.prog 45 0 = some (41, 0) ∧
  fieldOff Tryz.prog 45 1 = some (4, 1) ∧
  fieldOff Tryz.prog 45 2 = some (2, 2) ∧
  fieldOff Tryz.prog 45 3 = some (9, 3) ∧
  fieldOff Tryz.prog 45 4 = some (42, 4) := by
  refine ⟨?_, ?_, ?_, ?_, ?_, ?_, ?_, ?_, ?_, ?_, ?_, ?_⟩ <;> rfl
@[simp] theorem fc_fieldOff_12 : fieldOff Tryz.prog 45 5 = some (43, 5) ∧
  fieldOff Tryz.prog 50 0 = some (22, 0) ∧
  fieldOff Tryz.prog 50 1 = some (48, 1) ∧
  fieldOff Tryz.prog 64 0 = some (62, 0) ∧
  fieldOff Tryz.prog 64 1 = some (9, 1) ∧
  fieldOff Tryz.prog 64 2 = some (45, 2) ∧
  fieldOff Tryz.prog 70 0 = some (9, 0) ∧
  fieldOff Tryz.prog 70 1 = some (45, 1) ∧
  fieldOff Tryz.prog 80 0 = some (77, 0) ∧
  fieldOff Tryz.prog 80 1 = some (9, 1) ∧
  fieldOff Tryz.prog 80 2 = some (9, 2) ∧
  fieldOff Tryz.prog 80 3 = some (2, 3) := by
  refine ⟨?_, ?_, ?_, ?_, ?_, ?_, ?_, ?_, ?_, ?_, ?_, ?_⟩ <;> rfl
@[simp] theorem fc_fieldOff_24 : fieldOff Tryz.prog 80 4 = some (4, 4) ∧
  fieldOff Tryz.prog 80 5 = some (45, 5) ∧
  fieldOff Tryz.prog 80 6 = some (4, 11) ∧
  fieldOff Tryz.prog 80 7 = some (45, 12) ∧
  fieldOff Tryz.prog 80 8 = some (78, 18) ∧
  fieldOff Tryz.prog 82 0 = some (22, 0) ∧
  fieldOff Tryz.prog 82 1 = some (80, 1) ∧
  fieldOff Tryz.prog 118 0 = some (116, 0) ∧
  fieldOff Tryz.prog 118 1 = some (35, 1) ∧
  fieldOff Tryz.prog 139 0 = some (137, 0) ∧
  fieldOff Tryz.prog 139 1 = some (35, 1) ∧
  fieldOff Tryz.prog 157 0 = some (28, 0) := by
  refine ⟨?_, ?_, ?_, ?_, ?_, ?_, ?_, ?_, ?_, ?_, ?_, ?_⟩ <;> rfl
@[simp] theorem fc_fieldOff_36 : fieldOff Tryz.prog 157 1 = some (125, 1) ∧
  fieldOff Tryz.prog 167 0 = some (9, 0) ∧
  fieldOff Tryz.prog 167 1 = some (165, 1) ∧
  fieldOff Tryz.prog 175 0 = some (4, 0) ∧
  fieldOff Tryz.prog 175 1 = some (171, 1) ∧
  fieldOff Tryz.prog 175 2 = some (172, 2) ∧
  fieldOff Tryz.prog 175 3 = some (173, 3) ∧
  fieldOff Tryz.prog 177 0 = some (9, 0) ∧
  fieldOff Tryz.prog 177 1 = some (175, 1) ∧
  fieldOff Tryz.prog 228 0 = some (5, 0) ∧
  fieldOff Tryz.prog 228 1 = some (5, 1) := by
  refine ⟨?_, ?_, ?_, ?_, ?_, ?_, ?_, ?_, ?_, ?_, ?_⟩ <;> rfl
@[simp] theorem fc_hasBody_0 : hasBody Tryz.prog 3 = true ∧
  hasBody Tryz.prog 4 = true ∧
  hasBody Tryz.prog 5 = true ∧
  hasBody Tryz.prog 6 = true ∧
  hasBody Tryz.prog 7 = true ∧
  hasBody Tryz.prog 8 = true ∧
  hasBody Tryz.prog 9 = true ∧
  hasBody Tryz.prog 10 = true ∧
  hasBody Tryz.prog 11 = true ∧
  hasBody Tryz.prog 12 = true ∧
  hasBody Tryz.prog 13 = true ∧
  hasBody Tryz.prog 14 = true := by
  refine ⟨?_, ?_, ?_, ?_, ?_, ?_, ?_, ?_, ?_, ?_, ?_, ?_⟩ <;> kernel_rfl
@[simp] theorem fc_hasBody_12 : hasBody Tryz.prog 15 = true ∧
  hasBody Tryz.prog 16 = true ∧
  hasBody Tryz.prog 17 = true ∧
  hasBody Tryz.prog 18 = true ∧
  hasBody Tryz.prog 19 = true ∧
  hasBody Tryz.prog 20 = true ∧
  hasBody Tryz.prog 21 = true ∧
  hasBody Tryz.prog 22 = true ∧
  hasBody Tryz.prog 23 = true ∧
  hasBody Tryz.prog 24 = true ∧
  hasBody Tryz.prog 25 = true ∧
  hasBody Tryz.prog 26 = true := by
  refine ⟨?_, ?_, ?_, ?_, ?_, ?_, ?_, ?_, ?_, ?_, ?_, ?_⟩ <;> kernel_rfl
@[simp] theorem fc_hasBody_24 : hasBody Tryz.prog 27 = true ∧
  hasBody Tryz.prog 28 = true ∧
  hasBody Tryz.prog 29 = true ∧
  hasBody Tryz.prog 30 = true ∧
  hasBody Tryz.prog 31 = true ∧
  hasBody Tryz.prog 32 = true ∧
  hasBody Tryz.prog 33 = true ∧
  hasBody Tryz.prog 34 = true ∧
  hasBody Tryz.prog 35 = true ∧
  hasBody Tryz.prog 36 = true ∧
  hasBody Tryz.prog 37 = true ∧
  hasBody Tryz.prog 38 = true := by
  refine ⟨?_, ?_, ?_, ?_, ?_, ?_, ?_, ?_, ?_, ?_, ?_, ?_⟩ <;> kernel_rfl
@[simp] theorem fc_hasBody_36 : hasBody Tryz.prog 39 = true ∧
  hasBody Tryz.prog 40 = true ∧
  hasBody Tryz.prog 41 = true ∧
  hasBody Tryz.prog 42 = true ∧
  hasBody Tryz.prog 43 = true ∧
  hasBody Tryz.prog 44 = true ∧
  hasBody Tryz.prog 45 = true ∧
  hasBody Tryz.prog 46 = true ∧
  hasBody Tryz.prog 47 = true ∧
  hasBody Tryz.prog 48 = true ∧
  hasBody Tryz.prog 49 = true ∧
  hasBody Tryz.prog 50 = true := by
  refine ⟨?_, ?_, ?_, ?_, ?_, ?_, ?_, ?_, ?_, ?_, ?_, ?_⟩ <;> kernel_rfl
@[simp] theorem fc_hasBody_48 : hasBody Tryz.prog 51 = true ∧
  hasBody Tryz.prog 52 = true ∧
  hasBody Tryz.prog 53 = true ∧
  hasBody Tryz.prog 54 = true ∧
  hasBody Tryz.prog 55 = true ∧
  hasBody Tryz.prog 56 = true ∧
  hasBody Tryz.prog 57 = true ∧
  hasBody Tryz.prog 58 = true ∧
  hasBody Tryz.prog 59 = true ∧
  hasBody Tryz.prog 60 = true ∧
  hasBody Tryz.prog 61 = true ∧
  hasBody Tryz.prog 62 = true := by
  refine ⟨?_, ?_, ?_, ?_, ?_, ?_, ?_, ?_, ?_, ?_, ?_, ?_⟩ <;> kernel_rfl
@[simp] theorem fc_hasBody_60 : hasBody Tryz.prog 63 = true ∧
  hasBody Tryz.prog 64 = true ∧
  hasBody Tryz.prog 65 = true ∧
  hasBody Tryz.prog 66 = true ∧
  hasBody Tryz.prog 67 = true ∧
  hasBody Tryz.prog 68 = true ∧
  hasBody Tryz.prog 69 = true ∧
  hasBody Tryz.prog 70 = true ∧
  hasBody Tryz.prog 71 = true ∧
  hasBody Tryz.prog 72 = true ∧
  hasBody Tryz.prog 73 = true ∧
  hasBody Tryz.prog 74 = true := by
  refine ⟨?_, ?_, ?_, ?_, ?_, ?_, ?_, ?_, ?_, ?_, ?_, ?_⟩ <;> kernel_rfl
@[simp] theorem fc_hasBody_72 : hasBody Tryz.prog 75 = true ∧
  hasBody Tryz.prog 76 = true ∧
  hasBody Tryz.prog 77 = true ∧
  hasBody Tryz.prog 78 = true ∧
  hasBody Tryz.prog 79 = true ∧
  hasBody Tryz.prog 80 = true ∧
  hasBody Tryz.prog 81 = true ∧
  hasBody Tryz.prog 82 = true ∧
  hasBody Tryz.prog 83 = true ∧
  hasBody Tryz.prog 84 = true ∧
  hasBody Tryz.prog 85 = true ∧
  hasBody Tryz.prog 86 = true := by
  refine ⟨?_, ?_, ?_, ?_, ?_, ?_, ?_, ?_, ?_, ?_, ?_, ?_⟩ <;> kernel_rfl
@[simp] theorem fc_hasBody_84 : hasBody Tryz.prog 87 = true ∧
  hasBody Tryz.prog 88 = true ∧
  hasBody Tryz.prog 89 = true ∧
  hasBody Tryz.prog 90 = true ∧
  hasBody Tryz.prog 91 = true ∧
  hasBody Tryz.prog 92 = true ∧
  hasBody Tryz.prog 93 = true ∧
  hasBody Tryz.prog 94 = true ∧
  hasBody Tryz.prog 95 = true ∧
  hasBody Tryz.prog 96 = true ∧
  hasBody Tryz.prog 97 = true ∧
  hasBody Tryz.prog 98 = true := by
  refine ⟨?_, ?_, ?_, ?_, ?_, ?_, ?_, ?_, ?_, ?_, ?_, ?_⟩ <;> kernel_rfl
@[simp] theorem fc_hasBody_96 : hasBody Tryz.prog 99 = true ∧
  hasBody Tryz.prog 100 = true ∧
  hasBody Tryz.prog 101 = true ∧
  hasBody Tryz.prog 102 = true ∧
  hasBody Tryz.prog 103 = true ∧
  hasBody Tryz.prog 104 = true ∧
  hasBody Tryz.prog 105 = true ∧
  hasBody Tryz.prog 106 = true ∧
  hasBody Tryz.prog 107 = true ∧
  hasBody Tryz.prog 108 = true ∧
  hasBody Tryz.prog 109 = true ∧
  hasBody Tryz.prog 110 = true := by
  refine ⟨?_, ?_, ?_, ?_, ?_, ?_, ?_, ?_, ?_, ?_, ?_, ?_⟩ <;> kernel_rfl
@[simp] theorem fc_hasBody_108 : hasBody Tryz.prog 111 = true ∧
  hasBody Tryz.prog 112 = true ∧
  hasBody Tryz.prog 113 = true ∧
  hasBody Tryz.prog 114 = true ∧
  hasBody Tryz.prog 115 = true ∧
  hasBody Tryz.prog 116 = true ∧
  hasBody Tryz.prog 117 = true ∧
  hasBody Tryz.prog 118 = true ∧
  hasBody Tryz.prog 119 = true ∧
  hasBody Tryz.prog 120 = true ∧
  hasBody Tryz.prog 121 = true ∧
  hasBody Tryz.prog 122 = true := by
  refine ⟨?_, ?_, ?_, ?_, ?_, ?_, ?_, ?_, ?_, ?_, ?_, ?_⟩ <;> kernel_rfl
@[simp] theorem fc_hasBody_120 : hasBody Tryz.prog 123 = true ∧
  hasBody Tryz.prog 124 = true ∧
  hasBody Tryz.prog 125 = true ∧
  hasBody Tryz.prog 126 = true ∧
  hasBody Tryz.prog 127 = true ∧
  hasBody Tryz.prog 128 = true ∧
  hasBody Tryz.prog 129 = true ∧
  hasBody Tryz.prog 130 = true ∧
  hasBody Tryz.prog 131 = true ∧
  hasBody Tryz.prog 132 = true ∧
  hasBody Tryz.prog 133 = true ∧
  hasBody Tryz.prog 134 = true := by
  refine ⟨?_, ?_, ?_, ?_, ?_, ?_, ?_, ?_, ?_, ?_, ?_, ?_⟩ <;> kernel_rfl
@[simp] theorem fc_hasBody_132 : hasBody Tryz.prog 135 = true ∧
  hasBody Tryz.prog 136 = true ∧
  hasBody Tryz.prog 137 = true ∧
  hasBody Tryz.prog 138 = true ∧
  hasBody Tryz.prog 139 = true ∧
  hasBody Tryz.prog 140 = true ∧
  hasBody Tryz.prog 141 = true ∧
  hasBody Tryz.prog 142 = true ∧
  hasBody Tryz.prog 143 = true ∧
  hasBody Tryz.prog 144 = true ∧
  hasBody Tryz.prog 145 = true ∧
  hasBody Tryz.prog 146 = true := by
  refine ⟨?_, ?_, ?_, ?_, ?_, ?_, ?_, ?_, ?_, ?_, ?_, ?_⟩ <;> kernel_rfl
@[simp] theorem fc_hasBody_144 : hasBody Tryz.prog 147 = true ∧
  hasBody Tryz.prog 148 = true ∧
  hasBody Tryz.prog 149 = true ∧
  hasBody Tryz.prog 150 = true ∧
  hasBody Tryz.prog 151 = true ∧
  hasBody Tryz.prog 152 = true ∧
  hasBody Tryz.prog 153 = true ∧
  hasBody Tryz.prog 154 = true ∧
  hasBody Tryz.prog 155 = true ∧
  hasBody Tryz.prog 156 = true ∧
  hasBody Tryz.prog 157 = true ∧
  hasBody Tryz.prog 158 = true := by
  refine ⟨?_, ?_, ?_, ?_, ?_, ?_, ?_, ?_, ?_, ?_, ?_, ?_⟩ <;> kernel_rfl
@[simp] theorem fc_hasBody_156 : hasBody Tryz.prog 159 = true ∧
  hasBody Tryz.prog 160 = true ∧
  hasBody Tryz.prog 161 = true ∧
  hasBody Tryz.prog 162 = true ∧
  hasBody Tryz.prog 163 = true ∧
  hasBody Tryz.prog 164 = true ∧
  hasBody Tryz.prog 165 = true ∧
  hasBody Tryz.prog 166 = true ∧
  hasBody Tryz.prog 167 = true ∧
  hasBody Tryz.prog 168 = true ∧
  hasBody Tryz.prog 169 = true ∧
  hasBody Tryz.prog 170 = true := by
  refine ⟨?_, ?_, ?_, ?_, ?_, ?_, ?_, ?_, ?_, ?_, ?_, ?_⟩ <;> kernel_rfl
@[simp] theorem fc_hasBody_168 : hasBody Tryz.prog 171 = true ∧
  hasBody Tryz.prog 172 = true ∧
  hasBody Tryz.prog 173 = true ∧
  hasBody Tryz.prog 174 = true ∧
  hasBody Tryz.prog 175 = true ∧
  hasBody Tryz.prog 176 = true ∧
  hasBody Tryz.prog 177 = true ∧
  hasBody Tryz.prog 178 = true ∧
  hasBody Tryz.prog 179 = true ∧
  hasBody Tryz.prog 180 = true ∧
  hasBody Tryz.prog 181 = true ∧
  hasBody Tryz.prog 182 = true := by
  refine ⟨?_, ?_, ?_, ?_, ?_, ?_, ?_, ?_, ?_, ?_, ?_, ?_⟩ <;> kernel_rfl
@[simp] theorem fc_hasBody_180 : hasBody Tryz.prog 183 = true ∧
  hasBody Tryz.prog 184 = true ∧
  hasBody Tryz.prog 185 = true ∧
  hasBody Tryz.prog 186 = true ∧
  hasBody Tryz.prog 187 = true ∧
  hasBody Tryz.prog 188 = true ∧
  hasBody Tryz.prog 189 = true ∧
  hasBody Tryz.prog 190 = false ∧
  hasBody Tryz.prog 191 = false ∧
  hasBody Tryz.prog 192 = true ∧
  hasBody Tryz.prog 193 = true ∧
  hasBody Tryz.prog 194 = true := by
  refine ⟨?_, ?_, ?_, ?_, ?_, ?_, ?_, ?_, ?_, ?_, ?_, ?_⟩ <;> kernel_rfl
@[simp] theorem fc_hasBody_192 : hasBody Tryz.prog 195 = true ∧
  hasBody Tryz.prog 196 = true ∧
  hasBody Tryz.prog 197 = true ∧
  hasBody Tryz.prog 198 = true ∧
  hasBody Tryz.prog 199 = true ∧
  hasBody Tryz.prog 200 = true ∧
  hasBody Tryz.prog 201 = true ∧
  hasBody Tryz.prog 202 = true ∧
  hasBody Tryz.prog 203 = true ∧
  hasBody Tryz.prog 204 = true ∧
  hasBody Tryz.prog 205 = true ∧
  hasBody Tryz.prog 206 = true := by
  refine ⟨?_, ?_, ?_, ?_, ?_, ?_, ?_, ?_, ?_, ?_, ?_, ?_⟩ <;> kernel_rfl
@[simp] theorem fc_isBoolT_0 : isBoolT Tryz.prog 2 = false ∧
  isBoolT Tryz.prog 3 = false ∧
  isBoolT Tryz.prog 4 = true ∧
  isBoolT Tryz.prog 5 = false ∧
  isBoolT Tryz.prog 9 = false ∧
  isBoolT Tryz.prog 12 = false ∧
  isBoolT Tryz.prog 20 = false ∧
  isBoolT Tryz.prog 21 = false ∧
  isBoolT Tryz.prog 22 = false ∧
  isBoolT Tryz.prog 28 = false ∧
  isBoolT Tryz.prog 35 = false ∧
  isBoolT Tryz.prog 41 = false := by
  refine ⟨?_, ?_, ?_, ?_, ?_, ?_, ?_, ?_, ?_, ?_, ?_, ?_⟩ <;> rfl
@[simp] theorem fc_isBoolT_12 : isBoolT Tryz.prog 42 = false ∧
  isBoolT Tryz.prog 43 = false ∧
  isBoolT Tryz.prog 62 = false ∧
  isBoolT Tryz.prog 77 = false ∧
  isBoolT Tryz.prog 116 = false ∧
  isBoolT Tryz.prog 119 = false ∧
  isBoolT Tryz.prog 137 = false ∧
  isBoolT Tryz.prog 152 = false ∧
  isBoolT Tryz.prog 205 = false := by
  refine ⟨?_, ?_, ?_, ?_, ?_, ?_, ?_, ?_, ?_⟩ <;> rfl
@[simp] theorem fc_isBytesT_0 : isBytesT Tryz.prog 2 = false ∧
  isBytesT Tryz.prog 3 = false ∧
  isBytesT Tryz.prog 5 = false ∧
  isBytesT Tryz.prog 9 = false ∧
  isBytesT Tryz.prog 12 = false ∧
  isBytesT Tryz.prog 21 = false ∧
  isBytesT Tryz.prog 22 = false ∧
  isBytesT Tryz.prog 35 = true ∧
  isBytesT Tryz.prog 119 = false ∧
  isBytesT Tryz.prog 137 = false ∧
  isBytesT Tryz.prog 152 = false ∧
  isBytesT Tryz.prog 230 = false := by
  refine ⟨?_, ?_, ?_, ?_, ?_, ?_, ?_, ?_, ?_, ?_, ?_, ?_⟩ <;> rfl
@[simp] theorem fc_isFuncT_0 : isFuncT Tryz.prog 2 = false ∧
  isFuncT Tryz.prog 3 = false ∧
  isFuncT Tryz.prog 4 = false ∧
  isFuncT Tryz.prog 5 = false ∧
  isFuncT Tryz.prog 9 = false ∧
  isFuncT Tryz.prog 12 = false ∧
  isFuncT Tryz.prog 20 = false ∧
  isFuncT Tryz.prog 21 = false ∧
  isFuncT Tryz.prog 22 = false ∧
  isFuncT Tryz.prog 28 = false ∧
  isFuncT Tryz.prog 35 = false ∧
  isFuncT Tryz.prog 41 = false := by
  refine ⟨?_, ?_, ?_, ?_, ?_, ?_, ?_, ?_, ?_, ?_, ?_, ?_⟩ <;> rfl
@[simp] theorem fc_isFuncT_12 : isFuncT Tryz.prog 42 = false ∧
  isFuncT Tryz.prog 43 = false ∧
  isFuncT Tryz.prog 62 = false ∧
  isFuncT Tryz.prog 77 = false ∧
  isFuncT Tryz.prog 116 = false ∧
  isFuncT Tryz.prog 119 = false ∧
  isFuncT Tryz.prog 137 = false ∧
  isFuncT Tryz.prog 152 = false ∧
  isFuncT Tryz.prog 205 = true := by
  refine ⟨?_, ?_, ?_, ?_, ?_, ?_, ?_, ?_, ?_⟩ <;> rfl
@[simp] theorem fc_isMapT_0 : isMapT Tryz.prog 169 = true ∧
  isMapT Tryz.prog 186 = true := by
  refine ⟨?_, ?_⟩ <;> rfl
@[simp] theorem fc_isPtrNZ_0 : isPtrNZ Tryz.prog 137 = true := by rfl
@[simp] theorem fc_isPtrT_0 : isPtrT Tryz.prog 2 = false ∧
  isPtrT Tryz.prog 3 = false ∧
  isPtrT Tryz.prog 4 = false ∧
  isPtrT Tryz.prog 5 = false ∧
  isPtrT Tryz.prog 9 = false ∧
  isPtrT Tryz.prog 12 = false ∧
  isPtrT Tryz.prog 20 = false ∧
  isPtrT Tryz.prog 21 = false ∧
  isPtrT Tryz.prog 22 = false ∧
  isPtrT Tryz.prog 28 = false ∧
  isPtrT Tryz.prog 35 = false ∧
  isPtrT Tryz.prog 41 = false := by
  refine ⟨?_, ?_, ?_, ?_, ?_, ?_, ?_, ?_, ?_, ?_, ?_, ?_⟩ <;> rfl
@[simp] theorem fc_isPtrT_12 : isPtrT Tryz.prog 42 = false ∧
  isPtrT Tryz.prog 43 = false ∧
  isPtrT Tryz.prog 62 = false ∧
  isPtrT Tryz.prog 77 = false ∧
  isPtrT Tryz.prog 116 = false ∧
  isPtrT Tryz.prog 119 = false ∧
  isPtrT Tryz.prog 137 = true ∧
  isPtrT Tryz.prog 152 = false ∧
  isPtrT Tryz.prog 205 = false := by
  refine ⟨?_, ?_, ?_, ?_, ?_, ?_, ?_, ?_, ?_⟩ <;> rfl
@[simp] theorem fc_isSliceT_0 : isSliceT Tryz.prog 35 = true ∧
  isSliceT Tryz.prog 42 = true ∧
  isSliceT Tryz.prog 43 = true := by
  refine ⟨?_, ?_, ?_⟩ <;> rfl
@[simp] theorem fc_isStrT_0 : isStrT Tryz.prog 2 = false ∧
  isStrT Tryz.prog 3 = false ∧
  isStrT Tryz.prog 5 = false ∧
  isStrT Tryz.prog 9 = true ∧
  isStrT Tryz.prog 12 = false ∧
  isStrT Tryz.prog 21 = false ∧
  isStrT Tryz.prog 22 = false ∧
  isStrT Tryz.prog 25 = false ∧
  isStrT Tryz.prog 35 = false ∧
  isStrT Tryz.prog 42 = false ∧
  isStrT Tryz.prog 43 = false ∧
  isStrT Tryz.prog 78 = false := by
  refine ⟨?_, ?_, ?_, ?_, ?_, ?_, ?_, ?_, ?_, ?_, ?_, ?_⟩ <;> rfl
@[simp] theorem fc_isStrT_12 : isStrT Tryz.prog 119 = false ∧
  isStrT Tryz.prog 129 = false ∧
  isStrT Tryz.prog 137 = false ∧
  isStrT Tryz.prog 142 = false ∧
  isStrT Tryz.prog 152 = false ∧
  isStrT Tryz.prog 230 = false := by
  refine ⟨?_, ?_, ?_, ?_, ?_, ?_⟩ <;> rfl
@[simp] theorem fc_keyT_0 : keyT Tryz.prog 21 = some true ∧
  keyT Tryz.prog 77 = some true := by
  refine ⟨?_, ?_⟩ <;> rfl
@[simp] theorem fc_noBody_0 : noBody Tryz.prog 190 = true ∧
  noBody Tryz.prog 191 = true := by
  refine ⟨?_, ?_⟩ <;> kernel_rfl
@[simp] theorem fc_ptrTo_0 : ptrTo Tryz.prog 194 = some 5 := by rfl
@[simp] theorem fc_sizeT_0 : sizeT Tryz.prog 2 = some 1 ∧
  sizeT Tryz.prog 3 = some 1 ∧
  sizeT Tryz.prog 4 = some 1 ∧
  sizeT Tryz.prog 5 = some 1 ∧
  sizeT Tryz.prog 9 = some 1 ∧
  sizeT Tryz.prog 22 = some 1 ∧
  sizeT Tryz.prog 24 = some 2 ∧
  sizeT Tryz.prog 25 = some 1 ∧
  sizeT Tryz.prog 27 = some 5 ∧
  sizeT Tryz.prog 28 = some 1 ∧
  sizeT Tryz.prog 35 = some 1 ∧
  sizeT Tryz.prog 41 = some 1 := by
  refine ⟨?_, ?_, ?_, ?_, ?_, ?_, ?_, ?_, ?_, ?_, ?_, ?_⟩ <;> rfl
@[simp] theorem fc_sizeT_12 : sizeT Tryz.prog 42 = some 1 ∧
  sizeT Tryz.prog 43 = some 1 ∧
  sizeT Tryz.prog 45 = some 6 ∧
  sizeT Tryz.prog 48 = some 1 ∧
  sizeT Tryz.prog 50 = some 2 ∧
  sizeT Tryz.prog 62 = some 1 ∧
  sizeT Tryz.prog 64 = some 8 ∧
  sizeT Tryz.prog 70 = some 7 ∧
  sizeT Tryz.prog 77 = some 1 ∧
  sizeT Tryz.prog 78 = some 1 ∧
  sizeT Tryz.prog 80 = some 19 ∧
  sizeT Tryz.prog 82 = some 20 := by
  refine ⟨?_, ?_, ?_, ?_, ?_, ?_, ?_, ?_, ?_, ?_, ?_, ?_⟩ <;> rfl
@[simp] theorem fc_sizeT_24 : sizeT Tryz.prog 116 = some 1 ∧
  sizeT Tryz.prog 118 = some 2 ∧
  sizeT Tryz.prog 119 = some 1 ∧
  sizeT Tryz.prog 125 = some 1 ∧
  sizeT Tryz.prog 137 = some 1 ∧
  sizeT Tryz.prog 142 = some 1 ∧
  sizeT Tryz.prog 157 = some 2 ∧
  sizeT Tryz.prog 165 = some 1 ∧
  sizeT Tryz.prog 167 = some 2 ∧
  sizeT Tryz.prog 171 = some 1 ∧
  sizeT Tryz.prog 172 = some 1 ∧
  sizeT Tryz.prog 173 = some 1 := by
  refine ⟨?_, ?_, ?_, ?_, ?_, ?_, ?_, ?_, ?_, ?_, ?_, ?_⟩ <;> rfl
@[simp] theorem fc_sizeT_36 : sizeT Tryz.prog 175 = some 4 ∧
  sizeT Tryz.prog 177 = some 5 ∧
  sizeT Tryz.prog 186 = some 1 ∧
  sizeT Tryz.prog 201 = some 1 ∧
  sizeT Tryz.prog 203 = some 1 ∧
  sizeT Tryz.prog 205 = some 1 ∧
  sizeT Tryz.prog 215 = some 16 ∧
  sizeT Tryz.prog 228 = some 2 := by
  refine ⟨?_, ?_, ?_, ?_, ?_, ?_, ?_, ?_⟩ <;> rfl
@[simp] theorem fc_toUnsafe_0 : toUnsafe Tryz.prog 2 22 = false ∧
  toUnsafe Tryz.prog 3 5 = false ∧
  toUnsafe Tryz.prog 3 22 = false ∧
  toUnsafe Tryz.prog 3 119 = false ∧
  toUnsafe Tryz.prog 3 152 = false ∧
  toUnsafe Tryz.prog 5 3 = false ∧
  toUnsafe Tryz.prog 5 9 = false ∧
  toUnsafe Tryz.prog 5 12 = false ∧
  toUnsafe Tryz.prog 5 21 = false ∧
  toUnsafe Tryz.prog 5 22 = false ∧
  toUnsafe Tryz.prog 5 119 = false ∧
  toUnsafe Tryz.prog 9 35 = false := by
  refine ⟨?_, ?_, ?_, ?_, ?_, ?_, ?_, ?_, ?_, ?_, ?_, ?_⟩ <;> rfl
@[simp] theorem fc_toUnsafe_12 : toUnsafe Tryz.prog 21 5 = false ∧
  toUnsafe Tryz.prog 21 119 = false ∧
  toUnsafe Tryz.prog 22 2 = false ∧
  toUnsafe Tryz.prog 22 5 = false ∧
  toUnsafe Tryz.prog 22 119 = false ∧
  toUnsafe Tryz.prog 35 9 = false ∧
  toUnsafe Tryz.prog 35 35 = false ∧
  toUnsafe Tryz.prog 119 5 = false ∧
  toUnsafe Tryz.prog 137 230 = true ∧
  toUnsafe Tryz.prog 152 3 = false ∧
  toUnsafe Tryz.prog 152 119 = false ∧
  toUnsafe Tryz.prog 230 137 = false := by
  refine ⟨?_, ?_, ?_, ?_, ?_, ?_, ?_, ?_, ?_, ?_, ?_, ?_⟩ <;> rfl
@[simp] theorem fc_zeroA_0 : zeroA Tryz.prog 5 = some (AV.d (D.int IntKind.u8 (0))) ∧
  zeroA Tryz.prog 167 = some (AV.agg [AV.d (D.str []), AV.d D.nils]) := by
  refine ⟨?_, ?_⟩ <;> rfl
@[simp] theorem fc_zeroT_0 : zeroT Tryz.prog 3 = some [AV.d (D.int IntKind.i64 (0))] ∧
  zeroT Tryz.prog 5 = some [AV.d (D.int IntKind.u8 (0))] ∧
  zeroT Tryz.prog 9 = some [AV.d (D.str [])] ∧
  zeroT Tryz.prog 24 = some [AV.d (D.int IntKind.u64 (0)), AV.d (D.int IntKind.u64 (0))] ∧
  zeroT Tryz.prog 27 = some [AV.d (D.int IntKind.u64 (0)), AV.d (D.int IntKind.u64 (0)), AV.d (D.int IntKind.u64 (0)), AV.d (D.int IntKind.u64 (0)), AV.d D.nils] ∧
  zeroT Tryz.prog 28 = some [AV.d (D.int IntKind.i64 (0))] ∧
  zeroT Tryz.prog 45 = some [AV.d (D.int IntKind.i64 (0)), AV.d (D.bool false), AV.d (D.int IntKind.i64 (0)), AV.d (D.str []), AV.d D.nils, AV.d D.nils] ∧
  zeroT Tryz.prog 50 = some [AV.d (D.int IntKind.u64 (0)), AV.d D.nils] ∧
  zeroT Tryz.prog 64 = some [AV.d (D.int IntKind.i64 (0)), AV.d (D.str []), AV.d (D.int IntKind.i64 (0)), AV.d (D.bool false), AV.d (D.int IntKind.i64 (0)), AV.d (D.str []), AV.d D.nils, AV.d D.nils] ∧
  zeroT Tryz.prog 70 = some [AV.d (D.str []), AV.d (D.int IntKind.i64 (0)), AV.d (D.bool false), AV.d (D.int IntKind.i64 (0)), AV.d (D.str []), AV.d D.nils, AV.d D.nils] ∧
  zeroT Tryz.prog 80 = some [AV.d (D.int IntKind.i64 (0)), AV.d (D.str []), AV.d (D.str []), AV.d (D.int IntKind.i64 (0)), AV.d (D.bool false), AV.d (D.int IntKind.i64 (0)), AV.d (D.bool false), AV.d (D.int IntKind.i64 (0)), AV.d (D.str []), AV.d D.nils, AV.d D.nils, AV.d (D.bool false), AV.d (D.int IntKind.i64 (0)), AV.d (D.bool false), AV.d (D.int IntKind.i64 (0)), AV.d (D.str []), AV.d D.nils, AV.d D.nils, AV.d D.nils] ∧
  zeroT Tryz.prog 82 = some [AV.d (D.int IntKind.u64 (0)), AV.d (D.int IntKind.i64 (0)), AV.d (D.str []), AV.d (D.str []), AV.d (D.int IntKind.i64 (0)), AV.d (D.bool false), AV.d (D.int IntKind.i64 (0)), AV.d (D.bool false), AV.d (D.int IntKind.i64 (0)), AV.d (D.str []), AV.d D.nils, AV.d D.nils, AV.d (D.bool false), AV.d (D.int IntKind.i64 (0)), AV.d (D.bool false), AV.d (D.int IntKind.i64 (0)), AV.d (D.str []), AV.d D.nils, AV.d D.nils, AV.d D.nils] := by
  refine ⟨?_, ?_, ?_, ?_, ?_, ?_, ?_, ?_, ?_, ?_, ?_, ?_⟩ <;> rfl
@[simp] theorem fc_zeroT_12 : zeroT Tryz.prog 118 = some [AV.d (D.int IntKind.u8 (0)), AV.d D.nils] ∧
  zeroT Tryz.prog 119 = some [AV.d (D.int IntKind.u32 (0))] ∧
  zeroT Tryz.prog 139 = some [AV.d D.nilp, AV.d D.nils] ∧
  zeroT Tryz.prog 157 = some [AV.d (D.int IntKind.i64 (0)), AV.d D.nilf] ∧
  zeroT Tryz.prog 167 = some [AV.d (D.str []), AV.d D.nils] ∧
  zeroT Tryz.prog 175 = some [AV.d (D.bool false), AV.d D.nilf, AV.d D.nilf, AV.d D.nilf] ∧
  zeroT Tryz.prog 177 = some [AV.d (D.str []), AV.d (D.bool false), AV.d D.nilf, AV.d D.nilf, AV.d D.nilf] ∧
  zeroT Tryz.prog 186 = some [AV.d D.nilm] ∧
  zeroT Tryz.prog 206 = some [AV.d (D.int IntKind.u8 (0)), AV.d (D.int IntKind.u8 (0)), AV.d (D.int IntKind.u8 (0)), AV.d (D.int IntKind.u8 (0)), AV.d (D.int IntKind.u8 (0)), AV.d (D.int IntKind.u8 (0)), AV.d (D.int IntKind.u8 (0)), AV.d (D.int IntKind.u8 (0)), AV.d (D.int IntKind.u8 (0)), AV.d (D.int IntKind.u8 (0)), AV.d (D.int IntKind.u8 (0)), AV.d (D.int IntKind.u8 (0)), AV.d (D.int IntKind.u8 (0)), AV.d (D.int IntKind.u8 (0)), AV.d (D.int IntKind.u8 (0)), AV.d (D.int IntKind.u8 (0)), AV.d (D.int IntKind.u8 (0)), AV.d (D.int IntKind.u8 (0)), AV.d (D.int IntKind.u8 (0)), AV.d (D.int IntKind.u8 (0)), AV.d (D.int IntKind.u8 (0)), AV.d (D.int IntKind.u8 (0)), AV.d (D.int IntKind.u8 (0)), AV.d (D.int IntKind.u8 (0))] ∧
  zeroT Tryz.prog 215 = some [AV.d (D.int IntKind.u32 (0)), AV.d (D.int IntKind.u32 (0)), AV.d (D.int IntKind.u32 (0)), AV.d (D.int IntKind.u32 (0)), AV.d (D.int IntKind.u32 (0)), AV.d (D.int IntKind.u32 (0)), AV.d (D.int IntKind.u32 (0)), AV.d (D.int IntKind.u32 (0)), AV.d (D.int IntKind.u32 (0)), AV.d (D.int IntKind.u32 (0)), AV.d (D.int IntKind.u32 (0)), AV.d (D.int IntKind.u32 (0)), AV.d (D.int IntKind.u32 (0)), AV.d (D.int IntKind.u32 (0)), AV.d (D.int IntKind.u32 (0)), AV.d (D.int IntKind.u32 (0))] ∧
  zeroT Tryz.prog 228 = some [AV.d (D.int IntKind.u8 (0)), AV.d (D.int IntKind.u8 (0))] ∧
  zeroT Tryz.prog 235 = some [AV.d (D.int IntKind.u8 (0)), AV.d (D.int IntKind.u8 (0)), AV.d (D.int IntKind.u8 (0)), AV.d (D.int IntKind.u8 (0)), AV.d (D.int IntKind.u8 (0)), AV.d (D.int IntKind.u8 (0)), AV.d (D.int IntKind.u8 (0)), AV.d (D.int IntKind.u8 (0)), AV.d (D.int IntKind.u8 (0)), AV.d (D.int IntKind.u8 (0)), AV.d (D.int IntKind.u8 (0)), AV.d (D.int IntKind.u8 (0)), AV.d (D.int IntKind.u8 (0)), AV.d (D.int IntKind.u8 (0)), AV.d (D.int IntKind.u8 (0)), AV.d (D.int IntKind.u8 (0)), AV.d (D.int IntKind.u8 (0)), AV.d (D.int IntKind.u8 (0)), AV.d (D.int IntKind.u8 (0)), AV.d (D.int IntKind.u8 (0)), AV.d (D.int IntKind.u8 (0)), AV.d (D.int IntKind.u8 (0)), AV.d (D.int IntKind.u8 (0)), AV.d (D.int IntKind.u8 (0)), AV.d (D.int IntKind.u8 (0)), AV.d (D.int IntKind.u8 (0)), AV.d (D.int IntKind.u8 (0)), AV.d (D.int IntKind.u8 (0)), AV.d (D.int IntKind.u8 (0)), AV.d (D.int IntKind.u8 (0)), AV.d (D.int IntKind.u8 (0)), AV.d (D.int IntKind.u8 (0)), AV.d (D.int IntKind.u8 (0)), AV.d (D.int IntKind.u8 (0)), AV.d (D.int IntKind.u8 (0)), AV.d (D.int IntKind.u8 (0)), AV.d (D.int IntKind.u8 (0)), AV.d (D.int IntKind.u8 (0)), AV.d (D.int IntKind.u8 (0)), AV.d (D.int IntKind.u8 (0)), AV.d (D.int IntKind.u8 (0)), AV.d (D.int IntKind.u8 (0)), AV.d (D.int IntKind.u8 (0)), AV.d (D.int IntKind.u8 (0)), AV.d (D.int IntKind.u8 (0)), AV.d (D.int IntKind.u8 (0)), AV.d (D.int IntKind.u8 (0)), AV.d (D.int IntKind.u8 (0)), AV.d (D.int IntKind.u8 (0)), AV.d (D.int IntKind.u8 (0)), AV.d (D.int IntKind.u8 (0)), AV.d (D.int IntKind.u8 (0)), AV.d (D.int IntKind.u8 (0)), AV.d (D.int IntKind.u8 (0)), AV.d (D.int IntKind.u8 (0)), AV.d (D.int IntKind.u8 (0)), AV.d (D.int IntKind.u8 (0)), AV.d (D.int IntKind.u8 (0)), AV.d (D.int IntKind.u8 (0)), AV.d (D.int IntKind.u8 (0)), AV.d (D.int IntKind.u8 (0)), AV.d (D.int IntKind.u8 (0)), AV.d (D.int IntKind.u8 (0)), AV.d (D.int IntKind.u8 (0)), AV.d (D.int IntKind.u8 (0))] := by
  refine ⟨?_, ?_, ?_, ?_, ?_, ?_, ?_, ?_, ?_, ?_, ?_, ?_⟩ <;> rfl
attribute [simp] Tryz.underlying2 Tryz.underlying3 Tryz.underlying5 Tryz.underlying9 Tryz.underlying12 Tryz.underlying21 Tryz.underlying22 Tryz.underlying25 Tryz.underlying35 Tryz.underlying42 Tryz.underlying43 Tryz.underlying48 Tryz.underlying78 Tryz.underlying119 Tryz.underlying129 Tryz.underlying137 Tryz.underlying142 Tryz.underlying152 Tryz.underlying154 Tryz.underlying165 Tryz.underlying169 Tryz.underlying186 Tryz.underlying194 Tryz.underlying206 Tryz.underlying215 Tryz.underlying226 Tryz.underlying229 Tryz.underlying230 Tryz.underlying234 Tryz.underlying235 Tryz.underlying244 Tryz.underlying245

end Go.Proofs.YtblejchodicaoaaGreatDoor.Eng

/-
  CONTRACTS: small functions. Own work.
-/
namespace Go.Proofs.YtblejchodicaoaaGreatDoor.Eng
open Go Go.RowKit
set_option maxRecDepth 100000
set_option linter.unusedSimpArgs false
set_option maxHeartbeats 2000000
def avV (v : V) : AV := .agg [.d (.int .i64 v.k), .d (.bool v.b), .d (.int .i64 v.n), .d (.str v.t), .d (.rs 6 (v.l.map encV)), .d (.rs 7 (v.o.map encM))]
abbrev R (x : D) : Option (Out × List AObj) := some (.ret (.d x), [])

def blankV (v : V) : Bool := decide (v.k = 0 ∧ v.b = false ∧ v.n = 0 ∧ v.t = [] ∧ v.l = [] ∧ v.o = [])
/-- Has a value nothing but what its kind names? -/
def bareV (v : V) : Bool := decide (1 ≤ v.k ∧ v.k ≤ 6 ∧ (v.k = 2 ∨ v.b = false) ∧ (v.k = 3 ∨ v.n = 0) ∧ (v.k = 4 ∨ v.t = []) ∧ (v.k = 5 ∨ v.l = []) ∧ (v.k = 6 ∨ v.o = []))
theorem wrap64 {n : Int} (h1 : -9223372036854775808 ≤ n) (h2 : n ≤ 9223372036854775807) : IntKind.i64.wrap n = n := IntWalk.i64_in n (by omega)
theorem intbeq (a b : Int) : (a == b) = decide (a = b) := rfl
theorem intbne (a b : Int) : (a != b) = decide (¬ a = b) := by
  by_cases h : a = b <;> simp [h]
theorem strbeq (a b : List UInt8) : (a == b) = decide (a = b) := by
  by_cases h : a = b <;> simp [h]
theorem lenz {α : Type} (l : List α) : ((l.length : Int) == 0) = decide (l = []) := by
  cases l with
  | nil => simp
  | cons x r => simp; omega

theorem b_MayRequest (C : Oracle) (a b : Int) :
    abody Tryz.prog [] C (mach Tryz.prog C {}) true 8 [.agg [.d (.int .u64 a), .d (.int .u64 b)]] [] = R (.int .i64 (if a = 0 ∨ 4611686018427387903 < a ∨ 4611686018427387903 < b then 2 else 0)) := by
  unfold abody
  rw [Tryz.func8]
  simp only [Tryz.f8]
  simp -implicitDefEqProofs [R, IntWalk.i64_in,IntWalk.u64_in,IntWalk.u8_in,IntWalk.i32_in,IntWalk.u32_in,ye,zk,zm,qj,qk,qm,qn,zb,zc,zn,zp,zq,qo,zd,ze,zr,zt,zu,j3,x7,zw,zf,za,zx,qp,zy,zg,zz,z6,qq,zh,yf,qr,aop,yq,j4,j5,x8,x9,jd,j6,j7,wb,je,j8,yr,j9,wg,jf,jg,xa,xb,z7,jh,z8,ji,jj,yt,yu,xc,AV.one,wh,wi,aun,jk,xd,yw,afn,xe,Out.ren,xf,xg,jl,wj,xh,wl,jm,Eng.distinct,pos,wn,Eng.ren,wo,xi,wp,jo,wq,yg,xj,ws,wu,jp,frz,yx,yz,wv,List.lookup_cons,jq,zi,jr,js,List.range_succ,jt,xk,ju,xm,↓yh,↓yi,↓qt,↓y6,↓qu,↓qa,↓yj,↓yk,↓qv,↓qw,↓qx,↓qy,↓qb,↓qz,qc,ww,xn,jv,jw,yl,qd,qe,zj,wx,y7,jx,xp,xq,keq,y8,wy,qf,y9,ym,xr,jy,jz,xt,j0,wz,ja,j1,xu,xv,xw,jb,q5,q6,yn,q7,j2,Option.map_some,yo,qg,q8,q9,qh,ya,xx,yb,yp,yc,xy,w5,xz,x5,w6,jc,x6,Op.operands,Call.operands,yd,qi,w7,AObj.live]
  grind
theorem b_rMayRequest (C : Oracle) (a b : Int) :
    abody Tryz.prog [] C (mach Tryz.prog C {}) true 9 [.agg [.d (.int .u64 a), .d (.int .u64 b)]] [] = R (.int .i64 (if a = 0 ∨ 4611686018427387903 < a ∨ 4611686018427387903 < b then 2 else 0)) := by
  unfold abody
  rw [Tryz.func9]
  simp only [Tryz.f9]
  simp -implicitDefEqProofs [R, IntWalk.i64_in,IntWalk.u64_in,IntWalk.u8_in,IntWalk.i32_in,IntWalk.u32_in,ye,zk,zm,qj,qk,qm,qn,zb,zc,zn,zp,zq,qo,zd,ze,zr,zt,zu,j3,x7,zw,zf,za,zx,qp,zy,zg,zz,z6,qq,zh,yf,qr,aop,yq,j4,j5,x8,x9,jd,j6,j7,wb,je,j8,yr,j9,wg,jf,jg,xa,xb,z7,jh,z8,ji,jj,yt,yu,xc,AV.one,wh,wi,aun,jk,xd,yw,afn,xe,Out.ren,xf,xg,jl,wj,xh,wl,jm,Eng.distinct,pos,wn,Eng.ren,wo,xi,wp,jo,wq,yg,xj,ws,wu,jp,frz,yx,yz,wv,List.lookup_cons,jq,zi,jr,js,List.range_succ,jt,xk,ju,xm,↓yh,↓yi,↓qt,↓y6,↓qu,↓qa,↓yj,↓yk,↓qv,↓qw,↓qx,↓qy,↓qb,↓qz,qc,ww,xn,jv,jw,yl,qd,qe,zj,wx,y7,jx,xp,xq,keq,y8,wy,qf,y9,ym,xr,jy,jz,xt,j0,wz,ja,j1,xu,xv,xw,jb,q5,q6,yn,q7,j2,Option.map_some,yo,qg,q8,q9,qh,ya,xx,yb,yp,yc,xy,w5,xz,x5,w6,jc,x6,Op.operands,Call.operands,yd,qi,w7,AObj.live]
  grind
theorem b_blank (C : Oracle) (v : V) :
    abody Tryz.prog [] C (mach Tryz.prog C {}) true 78 [avV v] [] = R (.bool (blankV v)) := by
  unfold abody
  rw [Tryz.func78]
  simp only [Tryz.f78]
  simp -implicitDefEqProofs [R, avV, encV_eq, blankV, lenz, IntWalk.i64_in,IntWalk.u64_in,IntWalk.u8_in,IntWalk.i32_in,IntWalk.u32_in,ye,zk,zm,qj,qk,qm,qn,zb,zc,zn,zp,zq,qo,zd,ze,zr,zt,zu,j3,x7,zw,zf,za,zx,qp,zy,zg,zz,z6,qq,zh,yf,qr,aop,yq,j4,j5,x8,x9,jd,j6,j7,wb,je,j8,yr,j9,wg,jf,jg,xa,xb,z7,jh,z8,ji,jj,yt,yu,xc,AV.one,wh,wi,aun,jk,xd,yw,afn,xe,Out.ren,xf,xg,jl,wj,xh,wl,jm,Eng.distinct,pos,wn,Eng.ren,wo,xi,wp,jo,wq,yg,xj,ws,wu,jp,frz,yx,yz,wv,List.lookup_cons,jq,zi,jr,js,List.range_succ,jt,xk,ju,xm,↓yh,↓yi,↓qt,↓y6,↓qu,↓qa,↓yj,↓yk,↓qv,↓qw,↓qx,↓qy,↓qb,↓qz,qc,ww,xn,jv,jw,yl,qd,qe,zj,wx,y7,jx,xp,xq,keq,y8,wy,qf,y9,ym,xr,jy,jz,xt,j0,wz,ja,j1,xu,xv,xw,jb,q5,q6,yn,q7,j2,Option.map_some,yo,qg,q8,q9,qh,ya,xx,yb,yp,yc,xy,w5,xz,x5,w6,jc,x6,Op.operands,Call.operands,yd,qi,w7,AObj.live]
  simp [Bool.and_assoc]
theorem b_bare (C : Oracle) (v : V) :
    abody Tryz.prog [] C (mach Tryz.prog C {}) true 127 [avV v] [] = R (.bool (bareV v)) := by
  unfold abody
  rw [Tryz.func127]
  simp only [Tryz.f127]
  simp -implicitDefEqProofs [R, avV, encV_eq, bareV, lenz, IntWalk.i64_in,IntWalk.u64_in,IntWalk.u8_in,IntWalk.i32_in,IntWalk.u32_in,ye,zk,zm,qj,qk,qm,qn,zb,zc,zn,zp,zq,qo,zd,ze,zr,zt,zu,j3,x7,zw,zf,za,zx,qp,zy,zg,zz,z6,qq,zh,yf,qr,aop,yq,j4,j5,x8,x9,jd,j6,j7,wb,je,j8,yr,j9,wg,jf,jg,xa,xb,z7,jh,z8,ji,jj,yt,yu,xc,AV.one,wh,wi,aun,jk,xd,yw,afn,xe,Out.ren,xf,xg,jl,wj,xh,wl,jm,Eng.distinct,pos,wn,Eng.ren,wo,xi,wp,jo,wq,yg,xj,ws,wu,jp,frz,yx,yz,wv,List.lookup_cons,jq,zi,jr,js,List.range_succ,jt,xk,ju,xm,↓yh,↓yi,↓qt,↓y6,↓qu,↓qa,↓yj,↓yk,↓qv,↓qw,↓qx,↓qy,↓qb,↓qz,qc,ww,xn,jv,jw,yl,qd,qe,zj,wx,y7,jx,xp,xq,keq,y8,wy,qf,y9,ym,xr,jy,jz,xt,j0,wz,ja,j1,xu,xv,xw,jb,q5,q6,yn,q7,j2,Option.map_some,yo,qg,q8,q9,qh,ya,xx,yb,yp,yc,xy,w5,xz,x5,w6,jc,x6,Op.operands,Call.operands,yd,qi,w7,AObj.live]
  have hk : v.k = 1 ∨ v.k = 2 ∨ v.k = 3 ∨ v.k = 4 ∨ v.k = 5 ∨ v.k = 6 ∨ (¬ v.k = 1 ∧ ¬ v.k = 2 ∧ ¬ v.k = 3 ∧ ¬ v.k = 4 ∧ ¬ v.k = 5 ∧ ¬ v.k = 6 ∧ (¬ 1 ≤ v.k ∨ ¬ v.k ≤ 6)) := by omega
  rcases hk with h | h | h | h | h | h | ⟨h1, h2, h3, h4, h5, h6, h7⟩
  · simp [h, Bool.and_assoc]
  · simp [h, Bool.and_assoc]
  · simp [h, Bool.and_assoc]
  · simp [h, Bool.and_assoc]
  · simp [h, Bool.and_assoc]
  · simp [h, Bool.and_assoc]
  · rcases h7 with h7 | h7 <;> simp [h1, h2, h3, h4, h5, h6, h7]
theorem b_rbare (C : Oracle) (v : V) :
    abody Tryz.prog [] C (mach Tryz.prog C {}) true 145 [avV v] [] = R (.bool (bareV v)) := by
  unfold abody
  rw [Tryz.func145]
  simp only [Tryz.f145]
  simp -implicitDefEqProofs [R, avV, encV_eq, bareV, lenz, IntWalk.i64_in,IntWalk.u64_in,IntWalk.u8_in,IntWalk.i32_in,IntWalk.u32_in,ye,zk,zm,qj,qk,qm,qn,zb,zc,zn,zp,zq,qo,zd,ze,zr,zt,zu,j3,x7,zw,zf,za,zx,qp,zy,zg,zz,z6,qq,zh,yf,qr,aop,yq,j4,j5,x8,x9,jd,j6,j7,wb,je,j8,yr,j9,wg,jf,jg,xa,xb,z7,jh,z8,ji,jj,yt,yu,xc,AV.one,wh,wi,aun,jk,xd,yw,afn,xe,Out.ren,xf,xg,jl,wj,xh,wl,jm,Eng.distinct,pos,wn,Eng.ren,wo,xi,wp,jo,wq,yg,xj,ws,wu,jp,frz,yx,yz,wv,List.lookup_cons,jq,zi,jr,js,List.range_succ,jt,xk,ju,xm,↓yh,↓yi,↓qt,↓y6,↓qu,↓qa,↓yj,↓yk,↓qv,↓qw,↓qx,↓qy,↓qb,↓qz,qc,ww,xn,jv,jw,yl,qd,qe,zj,wx,y7,jx,xp,xq,keq,y8,wy,qf,y9,ym,xr,jy,jz,xt,j0,wz,ja,j1,xu,xv,xw,jb,q5,q6,yn,q7,j2,Option.map_some,yo,qg,q8,q9,qh,ya,xx,yb,yp,yc,xy,w5,xz,x5,w6,jc,x6,Op.operands,Call.operands,yd,qi,w7,AObj.live]
  by_cases h : v.k < 1 ∨ 6 < v.k
  · have h7 : ¬ 1 ≤ v.k ∨ ¬ v.k ≤ 6 := by omega
    rcases h7 with h7 | h7 <;> simp [h, h7]
  · have h1 : 1 ≤ v.k := by omega
    have h2 : v.k ≤ 6 := by omega
    simp [h, h1, h2, Bool.and_assoc]
end Go.Proofs.YtblejchodicaoaaGreatDoor.Eng

/-
  WHAT TELLS VALUES APART: the encodings, up to nil slices. Own work.
-/
namespace Go.Proofs.YtblejchodicaoaaGreatDoor.Eng
open Go Go.RowKit

theorem nD_rs {s : Nat} {xs ys : List (List D)} (h : nD (.rs s xs) = nD (.rs s ys)) : nDe xs = nDe ys := by
  cases xs <;> cases ys <;> simp_all [nD, nDe]
theorem nDe_map_inj {α : Type} {f : α → List D} (hf : ∀ a b, nDs (f a) = nDs (f b) → a = b) : ∀ (l m : List α), nDe (l.map f) = nDe (m.map f) → l = m
  | [], [], _ => rfl
  | [], _ :: _, h => by simp [nDe] at h
  | _ :: _, [], h => by simp [nDe] at h
  | x :: r, y :: q, h => by
    simp only [List.map_cons, nDe, List.cons.injEq] at h
    rw [hf _ _ h.1, nDe_map_inj hf _ _ h.2]
theorem fDe_map {α : Type} {f : α → List D} (hf : ∀ a, fDs (f a) = true) : ∀ l : List α, fDe (l.map f) = true
  | [] => rfl
  | x :: r => by simp [fDe, hf, fDe_map hf r]
mutual
theorem nV_inj : ∀ (a b : V), nDs (encV a) = nDs (encV b) → a = b
  | .mk k b n t l o, .mk k' b' n' t' l' o', h => by
    simp only [encV, nDs, nD, List.cons.injEq, D.int.injEq, D.bool.injEq, D.str.injEq, true_and, and_true] at h
    obtain ⟨rfl, rfl, rfl, rfl, h1, h2⟩ := h
    rw [nVs_inj _ _ (nD_rs h1), nMs_inj _ _ (nD_rs h2)]
theorem nM_inj : ∀ (a b : M), nDs (encM a) = nDs (encM b) → a = b
  | .mk k v, .mk k' v', h => by
    simp only [encM, nDs, nD, List.cons.injEq, D.str.injEq] at h
    obtain ⟨rfl, h⟩ := h
    rw [nV_inj _ _ h]
theorem nVs_inj : ∀ (a b : List V), nDe (encVs a) = nDe (encVs b) → a = b
  | [], [], _ => rfl
  | [], _ :: _, h => by simp [encVs, nDe] at h
  | _ :: _, [], h => by simp [encVs, nDe] at h
  | x :: r, y :: q, h => by
    simp only [encVs, nDe, List.cons.injEq] at h
    rw [nV_inj _ _ h.1, nVs_inj _ _ h.2]
theorem nMs_inj : ∀ (a b : List M), nDe (encMs a) = nDe (encMs b) → a = b
  | [], [], _ => rfl
  | [], _ :: _, h => by simp [encMs, nDe] at h
  | _ :: _, [], h => by simp [encMs, nDe] at h
  | x :: r, y :: q, h => by
    simp only [encMs, nDe, List.cons.injEq] at h
    rw [nM_inj _ _ h.1, nMs_inj _ _ h.2]
end
mutual
theorem fV : ∀ v : V, fDs (encV v) = true
  | .mk k b n t l o => by simp [encV, fDs, fD, fVs l, fMs o]
theorem fM : ∀ m : M, fDs (encM m) = true
  | .mk k v => by simp [encM, fDs, fD, fV v]
theorem fVs : ∀ l : List V, fDe (encVs l) = true
  | [] => rfl
  | x :: r => by simp [encVs, fDe, fV x, fVs r]
theorem fMs : ∀ l : List M, fDe (encMs l) = true
  | [] => rfl
  | x :: r => by simp [encMs, fDe, fM x, fMs r]
end
theorem nPO_inj (a b : PO) (h : nDs (encPO a) = nDs (encPO b)) : a = b := by
  obtain ⟨k, t, v⟩ := a
  obtain ⟨k', t', v'⟩ := b
  simp only [encPO, nDs, nD, List.cons.injEq, D.int.injEq, D.str.injEq, true_and] at h
  obtain ⟨rfl, rfl, h⟩ := h
  rw [nV_inj _ _ h]
theorem fPO (p : PO) : fDs (encPO p) = true := by simp [encPO, fDs, fD, fV]

theorem nLV_inj {l m : List V} (h : nD (.rs 6 (l.map encV)) = nD (.rs 6 (m.map encV))) : l = m := nDe_map_inj nV_inj _ _ (nD_rs h)
theorem nLM_inj {l m : List M} (h : nD (.rs 7 (l.map encM)) = nD (.rs 7 (m.map encM))) : l = m := nDe_map_inj nM_inj _ _ (nD_rs h)
theorem nLPO_inj {l m : List PO} (h : nD (.rs 8 (l.map encPO)) = nD (.rs 8 (m.map encPO))) : l = m := nDe_map_inj nPO_inj _ _ (nD_rs h)
theorem nav_inj {a b : V} (h : nA (avV a) = nA (avV b)) : a = b := by
  apply nV_inj
  simp only [avV, nA, nAs, AV.agg.injEq, List.cons.injEq, AV.d.injEq, and_true] at h
  rw [encV_eq, encV_eq]
  simp only [nDs, h]
theorem fav (a : V) : fA (avV a) = true := by simp [avV, fA, fAs, fD, fDe_map fV, fDe_map fM]
theorem fLV (l : List V) : fD (.rs 6 (l.map encV)) = true := by simp [fD, fDe_map fV]
theorem fLM (l : List M) : fD (.rs 7 (l.map encM)) = true := by simp [fD, fDe_map fM]
theorem fLPO (l : List PO) : fD (.rs 8 (l.map encPO)) = true := by simp [fD, fDe_map fPO]
end Go.Proofs.YtblejchodicaoaaGreatDoor.Eng

/-
  CONTRACTS: the strings.Builder that a call has made itself. Own work.
-/
namespace Go.Proofs.YtblejchodicaoaaGreatDoor.Eng
open Go Go.RowKit
set_option maxRecDepth 100000
set_option linter.unusedSimpArgs false
set_option maxHeartbeats 2000000

/-- A builder, used or not, and what it holds. -/
def bld (u : Bool) (l : List UInt8) : List AObj :=
  if l = [] then [.box [if u then .ptr 0 0 else .d .nilp, .d .nils] 139] else [.box [.ptr 0 0, .sl 1 1 0 l.length] 139, .drow (l.map fun b => [.int .u8 b.toNat]) 5 1]
theorem bld_nil (u : Bool) : bld u [] = [.box [if u then .ptr 0 0 else .d .nilp, .d .nils] 139] := rfl
theorem bld_cons (u : Bool) {l : List UInt8} (h : l ≠ []) : bld u l = [.box [.ptr 0 0, .sl 1 1 0 l.length] 139, .drow (l.map fun b => [.int .u8 b.toNat]) 5 1] := if_neg h

theorem fu : fromUnsafe Tryz.prog 230 137 139 2 0 = true := by kernel_rfl
/-- Behind a write. -/
def wr (l s : List UInt8) : List AObj :=
  if s = [] then bld true l else if l = [] then bld true s else [.box [.ptr 0 0, .sl 2 1 0 (l.length + s.length)] 139, .gone, .drow ((l ++ s).map fun b => [.int .u8 b.toNat]) 5 1]

theorem b_copyCheck (C : Oracle) (h : ∀ j σ, C (xId 190) [.ptr 0 j] σ = some (.ret (.ptr 0 j), σ)) (u : Bool) (l : List UInt8) :
    abody Tryz.prog [] C (mach Tryz.prog C {}) false 160 [.ptr 0 0] (bld u l) = some (.ret (.tup []), bld true l) := by
  unfold abody
  rw [Tryz.func160]
  simp only [Tryz.f160]
  by_cases hl : l = []
  · subst hl
    cases u
    · simp -implicitDefEqProofs [bld, h, fu, IntWalk.i64_in,IntWalk.u64_in,IntWalk.u8_in,IntWalk.i32_in,IntWalk.u32_in,ye,zk,zm,qj,qk,qm,qn,zb,zc,zn,zp,zq,qo,zd,ze,zr,zt,zu,j3,x7,zw,zf,za,zx,qp,zy,zg,zz,z6,qq,zh,yf,qr,aop,yq,j4,j5,x8,x9,jd,j6,j7,wb,je,j8,yr,j9,wg,jf,jg,xa,xb,z7,jh,z8,ji,jj,yt,yu,xc,AV.one,wh,wi,aun,jk,xd,yw,afn,xe,Out.ren,xf,xg,jl,wj,xh,wl,jm,Eng.distinct,pos,wn,Eng.ren,wo,xi,wp,jo,wq,yg,xj,ws,wu,jp,frz,yx,yz,wv,List.lookup_cons,jq,zi,jr,js,List.range_succ,jt,xk,ju,xm,↓yh,↓yi,↓qt,↓y6,↓qu,↓qa,↓yj,↓yk,↓qv,↓qw,↓qx,↓qy,↓qb,↓qz,qc,ww,xn,jv,jw,yl,qd,qe,zj,wx,y7,jx,xp,xq,keq,y8,wy,qf,y9,ym,xr,jy,jz,xt,j0,wz,ja,j1,xu,xv,xw,jb,q5,q6,yn,q7,j2,Option.map_some,yo,qg,q8,q9,qh,ya,xx,yb,yp,yc,xy,w5,xz,x5,w6,jc,x6,Op.operands,Call.operands,yd,qi,w7,AObj.live]
    · simp -implicitDefEqProofs [bld, h, fu, IntWalk.i64_in,IntWalk.u64_in,IntWalk.u8_in,IntWalk.i32_in,IntWalk.u32_in,ye,zk,zm,qj,qk,qm,qn,zb,zc,zn,zp,zq,qo,zd,ze,zr,zt,zu,j3,x7,zw,zf,za,zx,qp,zy,zg,zz,z6,qq,zh,yf,qr,aop,yq,j4,j5,x8,x9,jd,j6,j7,wb,je,j8,yr,j9,wg,jf,jg,xa,xb,z7,jh,z8,ji,jj,yt,yu,xc,AV.one,wh,wi,aun,jk,xd,yw,afn,xe,Out.ren,xf,xg,jl,wj,xh,wl,jm,Eng.distinct,pos,wn,Eng.ren,wo,xi,wp,jo,wq,yg,xj,ws,wu,jp,frz,yx,yz,wv,List.lookup_cons,jq,zi,jr,js,List.range_succ,jt,xk,ju,xm,↓yh,↓yi,↓qt,↓y6,↓qu,↓qa,↓yj,↓yk,↓qv,↓qw,↓qx,↓qy,↓qb,↓qz,qc,ww,xn,jv,jw,yl,qd,qe,zj,wx,y7,jx,xp,xq,keq,y8,wy,qf,y9,ym,xr,jy,jz,xt,j0,wz,ja,j1,xu,xv,xw,jb,q5,q6,yn,q7,j2,Option.map_some,yo,qg,q8,q9,qh,ya,xx,yb,yp,yc,xy,w5,xz,x5,w6,jc,x6,Op.operands,Call.operands,yd,qi,w7,AObj.live]
  · simp -implicitDefEqProofs [bld, h, fu, hl, IntWalk.i64_in,IntWalk.u64_in,IntWalk.u8_in,IntWalk.i32_in,IntWalk.u32_in,ye,zk,zm,qj,qk,qm,qn,zb,zc,zn,zp,zq,qo,zd,ze,zr,zt,zu,j3,x7,zw,zf,za,zx,qp,zy,zg,zz,z6,qq,zh,yf,qr,aop,yq,j4,j5,x8,x9,jd,j6,j7,wb,je,j8,yr,j9,wg,jf,jg,xa,xb,z7,jh,z8,ji,jj,yt,yu,xc,AV.one,wh,wi,aun,jk,xd,yw,afn,xe,Out.ren,xf,xg,jl,wj,xh,wl,jm,Eng.distinct,pos,wn,Eng.ren,wo,xi,wp,jo,wq,yg,xj,ws,wu,jp,frz,yx,yz,wv,List.lookup_cons,jq,zi,jr,js,List.range_succ,jt,xk,ju,xm,↓yh,↓yi,↓qt,↓y6,↓qu,↓qa,↓yj,↓yk,↓qv,↓qw,↓qx,↓qy,↓qb,↓qz,qc,ww,xn,jv,jw,yl,qd,qe,zj,wx,y7,jx,xp,xq,keq,y8,wy,qf,y9,ym,xr,jy,jz,xt,j0,wz,ja,j1,xu,xv,xw,jb,q5,q6,yn,q7,j2,Option.map_some,yo,qg,q8,q9,qh,ya,xx,yb,yp,yc,xy,w5,xz,x5,w6,jc,x6,Op.operands,Call.operands,yd,qi,w7,AObj.live]

theorem b_WriteString (C : Oracle) (h : ∀ u l, C 160 [.ptr 0 0] (bld u l) = some (.ret (.tup []), bld true l)) (u : Bool) (l s : List UInt8) (hs : l.length + s.length ≤ 140737488355328) :
    abody Tryz.prog [] C (mach Tryz.prog C {}) false 128 [.ptr 0 0, .d (.str s)] (bld u l) = some (.ret (.tup [.d (.int .i64 s.length), .d .nili]), wr l s) := by
  unfold abody
  rw [Tryz.func128]
  simp only [Tryz.f128]
  by_cases hl : l = []
  · subst hl
    have h1 := h u []
    by_cases hs0 : s = []
    · subst hs0
      cases u
      · simp [bld] at h1
        simp -implicitDefEqProofs [bld, wr, h1, IntWalk.i64_in,IntWalk.u64_in,IntWalk.u8_in,IntWalk.i32_in,IntWalk.u32_in,ye,zk,zm,qj,qk,qm,qn,zb,zc,zn,zp,zq,qo,zd,ze,zr,zt,zu,j3,x7,zw,zf,za,zx,qp,zy,zg,zz,z6,qq,zh,yf,qr,aop,yq,j4,j5,x8,x9,jd,j6,j7,wb,je,j8,yr,j9,wg,jf,jg,xa,xb,z7,jh,z8,ji,jj,yt,yu,xc,AV.one,wh,wi,aun,jk,xd,yw,afn,xe,Out.ren,xf,xg,jl,wj,xh,wl,jm,Eng.distinct,pos,wn,Eng.ren,wo,xi,wp,jo,wq,yg,xj,ws,wu,jp,frz,yx,yz,wv,List.lookup_cons,jq,zi,jr,js,List.range_succ,jt,xk,ju,xm,↓yh,↓yi,↓qt,↓y6,↓qu,↓qa,↓yj,↓yk,↓qv,↓qw,↓qx,↓qy,↓qb,↓qz,qc,ww,xn,jv,jw,yl,qd,qe,zj,wx,y7,jx,xp,xq,keq,y8,wy,qf,y9,ym,xr,jy,jz,xt,j0,wz,ja,j1,xu,xv,xw,jb,q5,q6,yn,q7,j2,Option.map_some,yo,qg,q8,q9,qh,ya,xx,yb,yp,yc,xy,w5,xz,x5,w6,jc,x6,Op.operands,Call.operands,yd,qi,w7,AObj.live]
      · simp [bld] at h1
        simp -implicitDefEqProofs [bld, wr, h1, IntWalk.i64_in,IntWalk.u64_in,IntWalk.u8_in,IntWalk.i32_in,IntWalk.u32_in,ye,zk,zm,qj,qk,qm,qn,zb,zc,zn,zp,zq,qo,zd,ze,zr,zt,zu,j3,x7,zw,zf,za,zx,qp,zy,zg,zz,z6,qq,zh,yf,qr,aop,yq,j4,j5,x8,x9,jd,j6,j7,wb,je,j8,yr,j9,wg,jf,jg,xa,xb,z7,jh,z8,ji,jj,yt,yu,xc,AV.one,wh,wi,aun,jk,xd,yw,afn,xe,Out.ren,xf,xg,jl,wj,xh,wl,jm,Eng.distinct,pos,wn,Eng.ren,wo,xi,wp,jo,wq,yg,xj,ws,wu,jp,frz,yx,yz,wv,List.lookup_cons,jq,zi,jr,js,List.range_succ,jt,xk,ju,xm,↓yh,↓yi,↓qt,↓y6,↓qu,↓qa,↓yj,↓yk,↓qv,↓qw,↓qx,↓qy,↓qb,↓qz,qc,ww,xn,jv,jw,yl,qd,qe,zj,wx,y7,jx,xp,xq,keq,y8,wy,qf,y9,ym,xr,jy,jz,xt,j0,wz,ja,j1,xu,xv,xw,jb,q5,q6,yn,q7,j2,Option.map_some,yo,qg,q8,q9,qh,ya,xx,yb,yp,yc,xy,w5,xz,x5,w6,jc,x6,Op.operands,Call.operands,yd,qi,w7,AObj.live]
    · have hs1 : ¬ s.length = 0 := by simpa using hs0
      have hs2 : s.length ≤ 140737488355328 := by simpa using hs
      cases u
      · simp [bld] at h1
        simp -implicitDefEqProofs [bld, wr, h1, hs0, hs1, hs2, IntWalk.i64_in,IntWalk.u64_in,IntWalk.u8_in,IntWalk.i32_in,IntWalk.u32_in,ye,zk,zm,qj,qk,qm,qn,zb,zc,zn,zp,zq,qo,zd,ze,zr,zt,zu,j3,x7,zw,zf,za,zx,qp,zy,zg,zz,z6,qq,zh,yf,qr,aop,yq,j4,j5,x8,x9,jd,j6,j7,wb,je,j8,yr,j9,wg,jf,jg,xa,xb,z7,jh,z8,ji,jj,yt,yu,xc,AV.one,wh,wi,aun,jk,xd,yw,afn,xe,Out.ren,xf,xg,jl,wj,xh,wl,jm,Eng.distinct,pos,wn,Eng.ren,wo,xi,wp,jo,wq,yg,xj,ws,wu,jp,frz,yx,yz,wv,List.lookup_cons,jq,zi,jr,js,List.range_succ,jt,xk,ju,xm,↓yh,↓yi,↓qt,↓y6,↓qu,↓qa,↓yj,↓yk,↓qv,↓qw,↓qx,↓qy,↓qb,↓qz,qc,ww,xn,jv,jw,yl,qd,qe,zj,wx,y7,jx,xp,xq,keq,y8,wy,qf,y9,ym,xr,jy,jz,xt,j0,wz,ja,j1,xu,xv,xw,jb,q5,q6,yn,q7,j2,Option.map_some,yo,qg,q8,q9,qh,ya,xx,yb,yp,yc,xy,w5,xz,x5,w6,jc,x6,Op.operands,Call.operands,yd,qi,w7,AObj.live]
      · simp [bld] at h1
        simp -implicitDefEqProofs [bld, wr, h1, hs0, hs1, hs2, IntWalk.i64_in,IntWalk.u64_in,IntWalk.u8_in,IntWalk.i32_in,IntWalk.u32_in,ye,zk,zm,qj,qk,qm,qn,zb,zc,zn,zp,zq,qo,zd,ze,zr,zt,zu,j3,x7,zw,zf,za,zx,qp,zy,zg,zz,z6,qq,zh,yf,qr,aop,yq,j4,j5,x8,x9,jd,j6,j7,wb,je,j8,yr,j9,wg,jf,jg,xa,xb,z7,jh,z8,ji,jj,yt,yu,xc,AV.one,wh,wi,aun,jk,xd,yw,afn,xe,Out.ren,xf,xg,jl,wj,xh,wl,jm,Eng.distinct,pos,wn,Eng.ren,wo,xi,wp,jo,wq,yg,xj,ws,wu,jp,frz,yx,yz,wv,List.lookup_cons,jq,zi,jr,js,List.range_succ,jt,xk,ju,xm,↓yh,↓yi,↓qt,↓y6,↓qu,↓qa,↓yj,↓yk,↓qv,↓qw,↓qx,↓qy,↓qb,↓qz,qc,ww,xn,jv,jw,yl,qd,qe,zj,wx,y7,jx,xp,xq,keq,y8,wy,qf,y9,ym,xr,jy,jz,xt,j0,wz,ja,j1,xu,xv,xw,jb,q5,q6,yn,q7,j2,Option.map_some,yo,qg,q8,q9,qh,ya,xx,yb,yp,yc,xy,w5,xz,x5,w6,jc,x6,Op.operands,Call.operands,yd,qi,w7,AObj.live]
  · have h1 := h u l
    simp [bld, hl] at h1
    by_cases hs0 : s = []
    · subst hs0
      simp -implicitDefEqProofs [bld, wr, h1, hl, IntWalk.i64_in,IntWalk.u64_in,IntWalk.u8_in,IntWalk.i32_in,IntWalk.u32_in,ye,zk,zm,qj,qk,qm,qn,zb,zc,zn,zp,zq,qo,zd,ze,zr,zt,zu,j3,x7,zw,zf,za,zx,qp,zy,zg,zz,z6,qq,zh,yf,qr,aop,yq,j4,j5,x8,x9,jd,j6,j7,wb,je,j8,yr,j9,wg,jf,jg,xa,xb,z7,jh,z8,ji,jj,yt,yu,xc,AV.one,wh,wi,aun,jk,xd,yw,afn,xe,Out.ren,xf,xg,jl,wj,xh,wl,jm,Eng.distinct,pos,wn,Eng.ren,wo,xi,wp,jo,wq,yg,xj,ws,wu,jp,frz,yx,yz,wv,List.lookup_cons,jq,zi,jr,js,List.range_succ,jt,xk,ju,xm,↓yh,↓yi,↓qt,↓y6,↓qu,↓qa,↓yj,↓yk,↓qv,↓qw,↓qx,↓qy,↓qb,↓qz,qc,ww,xn,jv,jw,yl,qd,qe,zj,wx,y7,jx,xp,xq,keq,y8,wy,qf,y9,ym,xr,jy,jz,xt,j0,wz,ja,j1,xu,xv,xw,jb,q5,q6,yn,q7,j2,Option.map_some,yo,qg,q8,q9,qh,ya,xx,yb,yp,yc,xy,w5,xz,x5,w6,jc,x6,Op.operands,Call.operands,yd,qi,w7,AObj.live]
    · have hs1 : ¬ s.length = 0 := by simpa using hs0
      simp -implicitDefEqProofs [bld, wr, h1, hs0, hs1, hs, hl, IntWalk.i64_in,IntWalk.u64_in,IntWalk.u8_in,IntWalk.i32_in,IntWalk.u32_in,ye,zk,zm,qj,qk,qm,qn,zb,zc,zn,zp,zq,qo,zd,ze,zr,zt,zu,j3,x7,zw,zf,za,zx,qp,zy,zg,zz,z6,qq,zh,yf,qr,aop,yq,j4,j5,x8,x9,jd,j6,j7,wb,je,j8,yr,j9,wg,jf,jg,xa,xb,z7,jh,z8,ji,jj,yt,yu,xc,AV.one,wh,wi,aun,jk,xd,yw,afn,xe,Out.ren,xf,xg,jl,wj,xh,wl,jm,Eng.distinct,pos,wn,Eng.ren,wo,xi,wp,jo,wq,yg,xj,ws,wu,jp,frz,yx,yz,wv,List.lookup_cons,jq,zi,jr,js,List.range_succ,jt,xk,ju,xm,↓yh,↓yi,↓qt,↓y6,↓qu,↓qa,↓yj,↓yk,↓qv,↓qw,↓qx,↓qy,↓qb,↓qz,qc,ww,xn,jv,jw,yl,qd,qe,zj,wx,y7,jx,xp,xq,keq,y8,wy,qf,y9,ym,xr,jy,jz,xt,j0,wz,ja,j1,xu,xv,xw,jb,q5,q6,yn,q7,j2,Option.map_some,yo,qg,q8,q9,qh,ya,xx,yb,yp,yc,xy,w5,xz,x5,w6,jc,x6,Op.operands,Call.operands,yd,qi,w7,AObj.live]

theorem b_WriteByte (C : Oracle) (h : ∀ u l, C 160 [.ptr 0 0] (bld u l) = some (.ret (.tup []), bld true l)) (u : Bool) (l : List UInt8) (c : UInt8) (hs : l.length + 1 ≤ 140737488355328) :
    abody Tryz.prog [] C (mach Tryz.prog C {}) false 135 [.ptr 0 0, .d (.int .u8 c.toNat)] (bld u l) = some (.ret (.d .nili), wr l [c]) := by
  unfold abody
  rw [Tryz.func135]
  simp only [Tryz.f135]
  by_cases hl : l = []
  · subst hl
    have h1 := h u []
    cases u
    · simp [bld] at h1
      simp -implicitDefEqProofs [bld, wr, h1, IntWalk.i64_in,IntWalk.u64_in,IntWalk.u8_in,IntWalk.i32_in,IntWalk.u32_in,ye,zk,zm,qj,qk,qm,qn,zb,zc,zn,zp,zq,qo,zd,ze,zr,zt,zu,j3,x7,zw,zf,za,zx,qp,zy,zg,zz,z6,qq,zh,yf,qr,aop,yq,j4,j5,x8,x9,jd,j6,j7,wb,je,j8,yr,j9,wg,jf,jg,xa,xb,z7,jh,z8,ji,jj,yt,yu,xc,AV.one,wh,wi,aun,jk,xd,yw,afn,xe,Out.ren,xf,xg,jl,wj,xh,wl,jm,Eng.distinct,pos,wn,Eng.ren,wo,xi,wp,jo,wq,yg,xj,ws,wu,jp,frz,yx,yz,wv,List.lookup_cons,jq,zi,jr,js,List.range_succ,jt,xk,ju,xm,↓yh,↓yi,↓qt,↓y6,↓qu,↓qa,↓yj,↓yk,↓qv,↓qw,↓qx,↓qy,↓qb,↓qz,qc,ww,xn,jv,jw,yl,qd,qe,zj,wx,y7,jx,xp,xq,keq,y8,wy,qf,y9,ym,xr,jy,jz,xt,j0,wz,ja,j1,xu,xv,xw,jb,q5,q6,yn,q7,j2,Option.map_some,yo,qg,q8,q9,qh,ya,xx,yb,yp,yc,xy,w5,xz,x5,w6,jc,x6,Op.operands,Call.operands,yd,qi,w7,AObj.live]
    · simp [bld] at h1
      simp -implicitDefEqProofs [bld, wr, h1, IntWalk.i64_in,IntWalk.u64_in,IntWalk.u8_in,IntWalk.i32_in,IntWalk.u32_in,ye,zk,zm,qj,qk,qm,qn,zb,zc,zn,zp,zq,qo,zd,ze,zr,zt,zu,j3,x7,zw,zf,za,zx,qp,zy,zg,zz,z6,qq,zh,yf,qr,aop,yq,j4,j5,x8,x9,jd,j6,j7,wb,je,j8,yr,j9,wg,jf,jg,xa,xb,z7,jh,z8,ji,jj,yt,yu,xc,AV.one,wh,wi,aun,jk,xd,yw,afn,xe,Out.ren,xf,xg,jl,wj,xh,wl,jm,Eng.distinct,pos,wn,Eng.ren,wo,xi,wp,jo,wq,yg,xj,ws,wu,jp,frz,yx,yz,wv,List.lookup_cons,jq,zi,jr,js,List.range_succ,jt,xk,ju,xm,↓yh,↓yi,↓qt,↓y6,↓qu,↓qa,↓yj,↓yk,↓qv,↓qw,↓qx,↓qy,↓qb,↓qz,qc,ww,xn,jv,jw,yl,qd,qe,zj,wx,y7,jx,xp,xq,keq,y8,wy,qf,y9,ym,xr,jy,jz,xt,j0,wz,ja,j1,xu,xv,xw,jb,q5,q6,yn,q7,j2,Option.map_some,yo,qg,q8,q9,qh,ya,xx,yb,yp,yc,xy,w5,xz,x5,w6,jc,x6,Op.operands,Call.operands,yd,qi,w7,AObj.live]
  · have h1 := h u l
    simp [bld, hl] at h1
    simp -implicitDefEqProofs [bld, wr, h1, hs, hl, IntWalk.i64_in,IntWalk.u64_in,IntWalk.u8_in,IntWalk.i32_in,IntWalk.u32_in,ye,zk,zm,qj,qk,qm,qn,zb,zc,zn,zp,zq,qo,zd,ze,zr,zt,zu,j3,x7,zw,zf,za,zx,qp,zy,zg,zz,z6,qq,zh,yf,qr,aop,yq,j4,j5,x8,x9,jd,j6,j7,wb,je,j8,yr,j9,wg,jf,jg,xa,xb,z7,jh,z8,ji,jj,yt,yu,xc,AV.one,wh,wi,aun,jk,xd,yw,afn,xe,Out.ren,xf,xg,jl,wj,xh,wl,jm,Eng.distinct,pos,wn,Eng.ren,wo,xi,wp,jo,wq,yg,xj,ws,wu,jp,frz,yx,yz,wv,List.lookup_cons,jq,zi,jr,js,List.range_succ,jt,xk,ju,xm,↓yh,↓yi,↓qt,↓y6,↓qu,↓qa,↓yj,↓yk,↓qv,↓qw,↓qx,↓qy,↓qb,↓qz,qc,ww,xn,jv,jw,yl,qd,qe,zj,wx,y7,jx,xp,xq,keq,y8,wy,qf,y9,ym,xr,jy,jz,xt,j0,wz,ja,j1,xu,xv,xw,jb,q5,q6,yn,q7,j2,Option.map_some,yo,qg,q8,q9,qh,ya,xx,yb,yp,yc,xy,w5,xz,x5,w6,jc,x6,Op.operands,Call.operands,yd,qi,w7,AObj.live]

theorem b_String (C : Oracle) (u : Bool) (l : List UInt8) (hs : l.length ≤ 140737488355328) :
    abody Tryz.prog [] C (mach Tryz.prog C {}) false 107 [.ptr 0 0] (bld u l) = some (.ret (.d (.str l)), if l = [] then bld u l else [.box [.ptr 0 0, .sl 1 1 0 l.length] 139, .fz 1 (l.map fun b => [.int .u8 b.toNat])]) := by
  unfold abody
  rw [Tryz.func107]
  simp only [Tryz.f107]
  by_cases hl : l = []
  · subst hl
    cases u
    · simp -implicitDefEqProofs [bld, mach_draw, IntWalk.i64_in,IntWalk.u64_in,IntWalk.u8_in,IntWalk.i32_in,IntWalk.u32_in,ye,zk,zm,qj,qk,qm,qn,zb,zc,zn,zp,zq,qo,zd,ze,zr,zt,zu,j3,x7,zw,zf,za,zx,qp,zy,zg,zz,z6,qq,zh,yf,qr,aop,yq,j4,j5,x8,x9,jd,j6,j7,wb,je,j8,yr,j9,wg,jf,jg,xa,xb,z7,jh,z8,ji,jj,yt,yu,xc,AV.one,wh,wi,aun,jk,xd,yw,afn,xe,Out.ren,xf,xg,jl,wj,xh,wl,jm,Eng.distinct,pos,wn,Eng.ren,wo,xi,wp,jo,wq,yg,xj,ws,wu,jp,frz,yx,yz,wv,List.lookup_cons,jq,zi,jr,js,List.range_succ,jt,xk,ju,xm,↓yh,↓yi,↓qt,↓y6,↓qu,↓qa,↓yj,↓yk,↓qv,↓qw,↓qx,↓qy,↓qb,↓qz,qc,ww,xn,jv,jw,yl,qd,qe,zj,wx,y7,jx,xp,xq,keq,y8,wy,qf,y9,ym,xr,jy,jz,xt,j0,wz,ja,j1,xu,xv,xw,jb,q5,q6,yn,q7,j2,Option.map_some,yo,qg,q8,q9,qh,ya,xx,yb,yp,yc,xy,w5,xz,x5,w6,jc,x6,Op.operands,Call.operands,yd,qi,w7,AObj.live]
    · simp -implicitDefEqProofs [bld, mach_draw, IntWalk.i64_in,IntWalk.u64_in,IntWalk.u8_in,IntWalk.i32_in,IntWalk.u32_in,ye,zk,zm,qj,qk,qm,qn,zb,zc,zn,zp,zq,qo,zd,ze,zr,zt,zu,j3,x7,zw,zf,za,zx,qp,zy,zg,zz,z6,qq,zh,yf,qr,aop,yq,j4,j5,x8,x9,jd,j6,j7,wb,je,j8,yr,j9,wg,jf,jg,xa,xb,z7,jh,z8,ji,jj,yt,yu,xc,AV.one,wh,wi,aun,jk,xd,yw,afn,xe,Out.ren,xf,xg,jl,wj,xh,wl,jm,Eng.distinct,pos,wn,Eng.ren,wo,xi,wp,jo,wq,yg,xj,ws,wu,jp,frz,yx,yz,wv,List.lookup_cons,jq,zi,jr,js,List.range_succ,jt,xk,ju,xm,↓yh,↓yi,↓qt,↓y6,↓qu,↓qa,↓yj,↓yk,↓qv,↓qw,↓qx,↓qy,↓qb,↓qz,qc,ww,xn,jv,jw,yl,qd,qe,zj,wx,y7,jx,xp,xq,keq,y8,wy,qf,y9,ym,xr,jy,jz,xt,j0,wz,ja,j1,xu,xv,xw,jb,q5,q6,yn,q7,j2,Option.map_some,yo,qg,q8,q9,qh,ya,xx,yb,yp,yc,xy,w5,xz,x5,w6,jc,x6,Op.operands,Call.operands,yd,qi,w7,AObj.live]
  · have hl1 : ¬ l.length = 0 := by simpa using hl
    have hl2 : 0 < l.length := by omega
    have hl3 : l.length ≤ 9223372036854775807 := by omega
    simp -implicitDefEqProofs [bld, mach_draw, hl, hl1, hl2, hl3, strOfE_map, IntWalk.i64_in,IntWalk.u64_in,IntWalk.u8_in,IntWalk.i32_in,IntWalk.u32_in,ye,zk,zm,qj,qk,qm,qn,zb,zc,zn,zp,zq,qo,zd,ze,zr,zt,zu,j3,x7,zw,zf,za,zx,qp,zy,zg,zz,z6,qq,zh,yf,qr,aop,yq,j4,j5,x8,x9,jd,j6,j7,wb,je,j8,yr,j9,wg,jf,jg,xa,xb,z7,jh,z8,ji,jj,yt,yu,xc,AV.one,wh,wi,aun,jk,xd,yw,afn,xe,Out.ren,xf,xg,jl,wj,xh,wl,jm,Eng.distinct,pos,wn,Eng.ren,wo,xi,wp,jo,wq,yg,xj,ws,wu,jp,frz,yx,yz,wv,List.lookup_cons,jq,zi,jr,js,List.range_succ,jt,xk,ju,xm,↓yh,↓yi,↓qt,↓y6,↓qu,↓qa,↓yj,↓yk,↓qv,↓qw,↓qx,↓qy,↓qb,↓qz,qc,ww,xn,jv,jw,yl,qd,qe,zj,wx,y7,jx,xp,xq,keq,y8,wy,qf,y9,ym,xr,jy,jz,xt,j0,wz,ja,j1,xu,xv,xw,jb,q5,q6,yn,q7,j2,Option.map_some,yo,qg,q8,q9,qh,ya,xx,yb,yp,yc,xy,w5,xz,x5,w6,jc,x6,Op.operands,Call.operands,yd,qi,w7,AObj.live]
end Go.Proofs.YtblejchodicaoaaGreatDoor.Eng

/-
  CONTRACTS: may a value be? Own work.
-/
namespace Go.Proofs.YtblejchodicaoaaGreatDoor.Eng
open Go Go.RowKit
set_option maxRecDepth 100000
set_option linter.unusedSimpArgs false
set_option maxHeartbeats 2000000
set_option pp.maxSteps 1000000
set_option pp.deepTerms true

theorem ar1 (a : Nat) : ((0 : Int) ≤ a + 1) = True := by simp; omega
theorem ar2 (a : Nat) : ((1 : Int) < a + 1 + 1) = True := by simp; omega
theorem ar3 (a : Nat) : ((0 : Int) ≤ a + 1 + 1) = True := by simp; omega
theorem ar4 (a b : Nat) : ((a : Int) + 1 < a + (b + 1 + 1)) = True := by simp; omega
mutual
/-- Why a value may not stand so deep; 0: it may. -/
def mayV (valid : List UInt8 → Bool) : V → Int → Int
  | .mk k b n t l o, d => if bareV (.mk k b n t l o) = false then 9 else if 64 < d then 5 else if valid t = false then 3 else
      if mayL valid l (d + 1) = 0 then mayO valid none o (d + 1) else mayL valid l (d + 1)
def mayM (valid : List UInt8 → Bool) : M → Int → Int
  | .mk _ v, d => mayV valid v d
def mayL (valid : List UInt8 → Bool) : List V → Int → Int
  | [], _ => 0
  | x :: r, d => if mayV valid x d = 0 then mayL valid r d else mayV valid x d
def mayO (valid : List UInt8 → Bool) : Option (List UInt8) → List M → Int → Int
  | _, [], _ => 0
  | p, m :: r, d => if valid m.key = false then 3 else if (match p with | some q => Op.bytesLess m.key q || m.key == q | none => false) = true then 8 else
      if mayM valid m d = 0 then mayO valid (some m.key) r d else mayM valid m d
end

theorem b_may (C : Oracle) (valid : List UInt8 → Bool) (v : V) (d : Int) (hsz : v.size ≤ 1152921504606846976) (hd : 0 ≤ d) (h1 : ∀ v, C 127 [avV v] [] = R (.bool (bareV v))) (h2 : ∀ s : List UInt8, s.length ≤ 1152921504606846976 → C 124 [.d (.str s)] [] = R (.bool (valid s)))
    (h3 : ∀ x d', x.size < v.size → 0 ≤ d' → C 98 [avV x, .d (.int .i64 d')] [] = R (.int .i64 (mayV valid x d'))) :
    abody Tryz.prog [] C (mach Tryz.prog C { keep := [(58, [1, 2, 24, 25, 26]), (122, [1, 2, 39, 40, 41])], outs := [(58, [1, 2, 4]), (122, [4])] }) true 98 [avV v, .d (.int .i64 d)] [] = R (.int .i64 (mayV valid v d)) := by
  simp only [avV, R] at h1 h2 h3
  have h2s := h2
  have h2 := h2s v.t (by have := V.t_len v; omega)
  unfold abody
  rw [Tryz.func98]
  simp only [Tryz.f98]
  by_cases hb : bareV v = true
  rotate_left
  · have e : mayV valid v d = 9 := by obtain ⟨k, b, n, t, l, o⟩ := v; simp [mayV, hb]
    simp -implicitDefEqProofs [R, avV, h1, hb, e, IntWalk.i64_in,IntWalk.u64_in,IntWalk.u8_in,IntWalk.i32_in,IntWalk.u32_in,ye,zk,zm,qj,qk,qm,qn,zb,zc,zn,zp,zq,qo,zd,ze,zr,zt,zu,j3,x7,zw,zf,za,zx,qp,zy,zg,zz,z6,qq,zh,yf,qr,aop,yq,j4,j5,x8,x9,jd,j6,j7,wb,je,j8,yr,j9,wg,jf,jg,xa,xb,z7,jh,z8,ji,jj,yt,yu,xc,AV.one,wh,wi,aun,jk,xd,yw,afn,xe,Out.ren,xf,xg,jl,wj,xh,wl,jm,Eng.distinct,pos,wn,Eng.ren,wo,xi,wp,jo,wq,yg,xj,ws,wu,jp,frz,yx,yz,wv,List.lookup_cons,jq,zi,jr,js,List.range_succ,jt,xk,ju,xm,↓yh,↓yi,↓qt,↓y6,↓qu,↓qa,↓yj,↓yk,↓qv,↓qw,↓qx,↓qy,↓qb,↓qz,qc,ww,xn,jv,jw,yl,qd,qe,zj,wx,y7,jx,xp,xq,keq,y8,wy,qf,y9,ym,xr,jy,jz,xt,j0,wz,ja,j1,xu,xv,xw,jb,q5,q6,yn,q7,j2,Option.map_some,yo,qg,q8,q9,qh,ya,xx,yb,yp,yc,xy,w5,xz,x5,w6,jc,x6,Op.operands,Call.operands,yd,qi,w7,AObj.live]
  by_cases h64 : 64 < d
  · have e : mayV valid v d = 5 := by obtain ⟨k, b, n, t, l, o⟩ := v; simp [mayV, hb, h64]
    simp -implicitDefEqProofs [R, avV, h1, hb, e, h64, IntWalk.i64_in,IntWalk.u64_in,IntWalk.u8_in,IntWalk.i32_in,IntWalk.u32_in,ye,zk,zm,qj,qk,qm,qn,zb,zc,zn,zp,zq,qo,zd,ze,zr,zt,zu,j3,x7,zw,zf,za,zx,qp,zy,zg,zz,z6,qq,zh,yf,qr,aop,yq,j4,j5,x8,x9,jd,j6,j7,wb,je,j8,yr,j9,wg,jf,jg,xa,xb,z7,jh,z8,ji,jj,yt,yu,xc,AV.one,wh,wi,aun,jk,xd,yw,afn,xe,Out.ren,xf,xg,jl,wj,xh,wl,jm,Eng.distinct,pos,wn,Eng.ren,wo,xi,wp,jo,wq,yg,xj,ws,wu,jp,frz,yx,yz,wv,List.lookup_cons,jq,zi,jr,js,List.range_succ,jt,xk,ju,xm,↓yh,↓yi,↓qt,↓y6,↓qu,↓qa,↓yj,↓yk,↓qv,↓qw,↓qx,↓qy,↓qb,↓qz,qc,ww,xn,jv,jw,yl,qd,qe,zj,wx,y7,jx,xp,xq,keq,y8,wy,qf,y9,ym,xr,jy,jz,xt,j0,wz,ja,j1,xu,xv,xw,jb,q5,q6,yn,q7,j2,Option.map_some,yo,qg,q8,q9,qh,ya,xx,yb,yp,yc,xy,w5,xz,x5,w6,jc,x6,Op.operands,Call.operands,yd,qi,w7,AObj.live]
  by_cases hv : valid v.t = true
  rotate_left
  · have e : mayV valid v d = 3 := by obtain ⟨k, b, n, t, l, o⟩ := v; simp only [V.t] at hv; simp [mayV, hb, h64, hv]
    simp -implicitDefEqProofs [R, avV, h1, h2, hb, e, h64, hv, IntWalk.i64_in,IntWalk.u64_in,IntWalk.u8_in,IntWalk.i32_in,IntWalk.u32_in,ye,zk,zm,qj,qk,qm,qn,zb,zc,zn,zp,zq,qo,zd,ze,zr,zt,zu,j3,x7,zw,zf,za,zx,qp,zy,zg,zz,z6,qq,zh,yf,qr,aop,yq,j4,j5,x8,x9,jd,j6,j7,wb,je,j8,yr,j9,wg,jf,jg,xa,xb,z7,jh,z8,ji,jj,yt,yu,xc,AV.one,wh,wi,aun,jk,xd,yw,afn,xe,Out.ren,xf,xg,jl,wj,xh,wl,jm,Eng.distinct,pos,wn,Eng.ren,wo,xi,wp,jo,wq,yg,xj,ws,wu,jp,frz,yx,yz,wv,List.lookup_cons,jq,zi,jr,js,List.range_succ,jt,xk,ju,xm,↓yh,↓yi,↓qt,↓y6,↓qu,↓qa,↓yj,↓yk,↓qv,↓qw,↓qx,↓qy,↓qb,↓qz,qc,ww,xn,jv,jw,yl,qd,qe,zj,wx,y7,jx,xp,xq,keq,y8,wy,qf,y9,ym,xr,jy,jz,xt,j0,wz,ja,j1,xu,xv,xw,jb,q5,q6,yn,q7,j2,Option.map_some,yo,qg,q8,q9,qh,ya,xx,yb,yp,yc,xy,w5,xz,x5,w6,jc,x6,Op.operands,Call.operands,yd,qi,w7,AObj.live]
  have hw : IntKind.i64.wrap (d + 1) = d + 1 := wrap64 (by omega) (by omega)
  have e : mayV valid v d = if mayL valid v.l (d + 1) = 0 then mayO valid none v.o (d + 1) else mayL valid v.l (d + 1) := by
    obtain ⟨k, b, n, t, l, o⟩ := v
    simp only [V.t, V.l, V.o] at hv ⊢
    simp [mayV, hb, h64, hv]
    rfl
  rw [e]
  simp -implicitDefEqProofs [R, avV, h1, h2, hb, h64, hv, mach_loop, IntWalk.i64_in,IntWalk.u64_in,IntWalk.u8_in,IntWalk.i32_in,IntWalk.u32_in,ye,zk,zm,qj,qk,qm,qn,zb,zc,zn,zp,zq,qo,zd,ze,zr,zt,zu,j3,x7,zw,zf,za,zx,qp,zy,zg,zz,z6,qq,zh,yf,qr,aop,yq,j4,j5,x8,x9,jd,j6,j7,wb,je,j8,yr,j9,wg,jf,jg,xa,xb,z7,jh,z8,ji,jj,yt,yu,xc,AV.one,wh,wi,aun,jk,xd,yw,afn,xe,Out.ren,xf,xg,jl,wj,xh,wl,jm,Eng.distinct,pos,wn,Eng.ren,wo,xi,wp,jo,wq,yg,xj,ws,wu,jp,frz,yx,yz,wv,List.lookup_cons,jq,zi,jr,js,List.range_succ,jt,xk,ju,xm,↓yh,↓yi,↓qt,↓y6,↓qu,↓qa,↓yj,↓yk,↓qv,↓qw,↓qx,↓qy,↓qb,↓qz,qc,ww,xn,jv,jw,yl,qd,qe,zj,wx,y7,jx,xp,xq,keq,y8,wy,qf,y9,ym,xr,jy,jz,xt,j0,wz,ja,j1,xu,xv,xw,jb,q5,q6,yn,q7,j2,Option.map_some,yo,qg,q8,q9,qh,ya,xx,yb,yp,yc,xy,w5,xz,x5,w6,jc,x6,Op.operands,Call.operands,yd,qi,w7,AObj.live]
  rw [aloop_list (l := v.l)
    (S := fun pre suf => { env := [(1, .d (.int .i64 d)), (2, .ptr 0 0), (24, .d (.rs 6 ((pre ++ suf).map encV))), (25, .d (.int .i64 ((pre ++ suf).length : Nat))), (26, .d (.int .i64 (pre.length : Nat)))], σ := [.box [.d (.int .i64 v.k), .d (.bool v.b), .d (.int .i64 v.n), .d (.str v.t), .d (.rs 6 (v.l.map encV)), .d (.rs 7 (v.o.map encM))] 45], dfs := [] })
    (R := fun pre suf => if ¬ mayL valid suf (d + 1) = 0 then some (.ret, { env := [(1, .d (.int .i64 d)), (2, .ptr 0 0), (4, .d (.int .i64 (mayL valid suf (d + 1))))], σ := [.box [.d (.int .i64 v.k), .d (.bool v.b), .d (.int .i64 v.n), .d (.str v.t), .d (.rs 6 (v.l.map encV)), .d (.rs 7 (v.o.map encM))] 45], dfs := [] })
      else some (.exit 1, { env := [(1, .d (.int .i64 d)), (2, .ptr 0 0)], σ := [.box [.d (.int .i64 v.k), .d (.bool v.b), .d (.int .i64 v.n), .d (.str v.t), .d (.rs 6 (v.l.map encV)), .d (.rs 7 (v.o.map encM))] 45], dfs := [] }))
    (hs := ?_) (h0 := ?_) (h1 := ?_)]
  rotate_left
  · simp -implicitDefEqProofs [IntWalk.i64_in,IntWalk.u64_in,IntWalk.u8_in,IntWalk.i32_in,IntWalk.u32_in,ye,zk,zm,qj,qk,qm,qn,zb,zc,zn,zp,zq,qo,zd,ze,zr,zt,zu,j3,x7,zw,zf,za,zx,qp,zy,zg,zz,z6,qq,zh,yf,qr,aop,yq,j4,j5,x8,x9,jd,j6,j7,wb,je,j8,yr,j9,wg,jf,jg,xa,xb,z7,jh,z8,ji,jj,yt,yu,xc,AV.one,wh,wi,aun,jk,xd,yw,afn,xe,Out.ren,xf,xg,jl,wj,xh,wl,jm,Eng.distinct,pos,wn,Eng.ren,wo,xi,wp,jo,wq,yg,xj,ws,wu,jp,frz,yx,yz,wv,List.lookup_cons,jq,zi,jr,js,List.range_succ,jt,xk,ju,xm,↓yh,↓yi,↓qt,↓y6,↓qu,↓qa,↓yj,↓yk,↓qv,↓qw,↓qx,↓qy,↓qb,↓qz,qc,ww,xn,jv,jw,yl,qd,qe,zj,wx,y7,jx,xp,xq,keq,y8,wy,qf,y9,ym,xr,jy,jz,xt,j0,wz,ja,j1,xu,xv,xw,jb,q5,q6,yn,q7,j2,Option.map_some,yo,qg,q8,q9,qh,ya,xx,yb,yp,yc,xy,w5,xz,x5,w6,jc,x6,Op.operands,Call.operands,yd,qi,w7,AObj.live]
  · intro pre hp
    subst hp
    simp -implicitDefEqProofs [mayL, mach_loop, IntWalk.i64_in,IntWalk.u64_in,IntWalk.u8_in,IntWalk.i32_in,IntWalk.u32_in,ye,zk,zm,qj,qk,qm,qn,zb,zc,zn,zp,zq,qo,zd,ze,zr,zt,zu,j3,x7,zw,zf,za,zx,qp,zy,zg,zz,z6,qq,zh,yf,qr,aop,yq,j4,j5,x8,x9,jd,j6,j7,wb,je,j8,yr,j9,wg,jf,jg,xa,xb,z7,jh,z8,ji,jj,yt,yu,xc,AV.one,wh,wi,aun,jk,xd,yw,afn,xe,Out.ren,xf,xg,jl,wj,xh,wl,jm,Eng.distinct,pos,wn,Eng.ren,wo,xi,wp,jo,wq,yg,xj,ws,wu,jp,frz,yx,yz,wv,List.lookup_cons,jq,zi,jr,js,List.range_succ,jt,xk,ju,xm,↓yh,↓yi,↓qt,↓y6,↓qu,↓qa,↓yj,↓yk,↓qv,↓qw,↓qx,↓qy,↓qb,↓qz,qc,ww,xn,jv,jw,yl,qd,qe,zj,wx,y7,jx,xp,xq,keq,y8,wy,qf,y9,ym,xr,jy,jz,xt,j0,wz,ja,j1,xu,xv,xw,jb,q5,q6,yn,q7,j2,Option.map_some,yo,qg,q8,q9,qh,ya,xx,yb,yp,yc,xy,w5,xz,x5,w6,jc,x6,Op.operands,Call.operands,yd,qi,w7,AObj.live]
  · intro pre x suf hp ih
    have hx : x.size < v.size := V.size_l (by rw [← hp]; simp)
    have h4 := h3 x (d + 1) hx (by omega)
    have hll : pre.length < v.l.length := by rw [← hp]; simp
    have hlen := V.l_len v
    have hw2 : IntKind.i64.wrap ((pre.length : Nat) + 1) = (pre.length : Nat) + 1 := wrap64 (by omega) (by omega)
    by_cases hm : mayV valid x (d + 1) = 0
    · simp -implicitDefEqProofs [mayL, mach_loop, h4, hw, hw2, ih, encV_eq, mid_lt, hm, IntWalk.i64_in,IntWalk.u64_in,IntWalk.u8_in,IntWalk.i32_in,IntWalk.u32_in,ye,zk,zm,qj,qk,qm,qn,zb,zc,zn,zp,zq,qo,zd,ze,zr,zt,zu,j3,x7,zw,zf,za,zx,qp,zy,zg,zz,z6,qq,zh,yf,qr,aop,yq,j4,j5,x8,x9,jd,j6,j7,wb,je,j8,yr,j9,wg,jf,jg,xa,xb,z7,jh,z8,ji,jj,yt,yu,xc,AV.one,wh,wi,aun,jk,xd,yw,afn,xe,Out.ren,xf,xg,jl,wj,xh,wl,jm,Eng.distinct,pos,wn,Eng.ren,wo,xi,wp,jo,wq,yg,xj,ws,wu,jp,frz,yx,yz,wv,List.lookup_cons,jq,zi,jr,js,List.range_succ,jt,xk,ju,xm,↓yh,↓yi,↓qt,↓y6,↓qu,↓qa,↓yj,↓yk,↓qv,↓qw,↓qx,↓qy,↓qb,↓qz,qc,ww,xn,jv,jw,yl,qd,qe,zj,wx,y7,jx,xp,xq,keq,y8,wy,qf,y9,ym,xr,jy,jz,xt,j0,wz,ja,j1,xu,xv,xw,jb,q5,q6,yn,q7,j2,Option.map_some,yo,qg,q8,q9,qh,ya,xx,yb,yp,yc,xy,w5,xz,x5,w6,jc,x6,Op.operands,Call.operands,yd,qi,w7,AObj.live]
    · simp -implicitDefEqProofs [mayL, mach_loop, h4, hw, hw2, ih, encV_eq, mid_lt, hm, IntWalk.i64_in,IntWalk.u64_in,IntWalk.u8_in,IntWalk.i32_in,IntWalk.u32_in,ye,zk,zm,qj,qk,qm,qn,zb,zc,zn,zp,zq,qo,zd,ze,zr,zt,zu,j3,x7,zw,zf,za,zx,qp,zy,zg,zz,z6,qq,zh,yf,qr,aop,yq,j4,j5,x8,x9,jd,j6,j7,wb,je,j8,yr,j9,wg,jf,jg,xa,xb,z7,jh,z8,ji,jj,yt,yu,xc,AV.one,wh,wi,aun,jk,xd,yw,afn,xe,Out.ren,xf,xg,jl,wj,xh,wl,jm,Eng.distinct,pos,wn,Eng.ren,wo,xi,wp,jo,wq,yg,xj,ws,wu,jp,frz,yx,yz,wv,List.lookup_cons,jq,zi,jr,js,List.range_succ,jt,xk,ju,xm,↓yh,↓yi,↓qt,↓y6,↓qu,↓qa,↓yj,↓yk,↓qv,↓qw,↓qx,↓qy,↓qb,↓qz,qc,ww,xn,jv,jw,yl,qd,qe,zj,wx,y7,jx,xp,xq,keq,y8,wy,qf,y9,ym,xr,jy,jz,xt,j0,wz,ja,j1,xu,xv,xw,jb,q5,q6,yn,q7,j2,Option.map_some,yo,qg,q8,q9,qh,ya,xx,yb,yp,yc,xy,w5,xz,x5,w6,jc,x6,Op.operands,Call.operands,yd,qi,w7,AObj.live]
  by_cases hl : mayL valid v.l (d + 1) = 0
  rotate_left
  · simp -implicitDefEqProofs [mach_loop, hl, IntWalk.i64_in,IntWalk.u64_in,IntWalk.u8_in,IntWalk.i32_in,IntWalk.u32_in,ye,zk,zm,qj,qk,qm,qn,zb,zc,zn,zp,zq,qo,zd,ze,zr,zt,zu,j3,x7,zw,zf,za,zx,qp,zy,zg,zz,z6,qq,zh,yf,qr,aop,yq,j4,j5,x8,x9,jd,j6,j7,wb,je,j8,yr,j9,wg,jf,jg,xa,xb,z7,jh,z8,ji,jj,yt,yu,xc,AV.one,wh,wi,aun,jk,xd,yw,afn,xe,Out.ren,xf,xg,jl,wj,xh,wl,jm,Eng.distinct,pos,wn,Eng.ren,wo,xi,wp,jo,wq,yg,xj,ws,wu,jp,frz,yx,yz,wv,List.lookup_cons,jq,zi,jr,js,List.range_succ,jt,xk,ju,xm,↓yh,↓yi,↓qt,↓y6,↓qu,↓qa,↓yj,↓yk,↓qv,↓qw,↓qx,↓qy,↓qb,↓qz,qc,ww,xn,jv,jw,yl,qd,qe,zj,wx,y7,jx,xp,xq,keq,y8,wy,qf,y9,ym,xr,jy,jz,xt,j0,wz,ja,j1,xu,xv,xw,jb,q5,q6,yn,q7,j2,Option.map_some,yo,qg,q8,q9,qh,ya,xx,yb,yp,yc,xy,w5,xz,x5,w6,jc,x6,Op.operands,Call.operands,yd,qi,w7,AObj.live]
  simp -implicitDefEqProofs [mach_loop, hl, IntWalk.i64_in,IntWalk.u64_in,IntWalk.u8_in,IntWalk.i32_in,IntWalk.u32_in,ye,zk,zm,qj,qk,qm,qn,zb,zc,zn,zp,zq,qo,zd,ze,zr,zt,zu,j3,x7,zw,zf,za,zx,qp,zy,zg,zz,z6,qq,zh,yf,qr,aop,yq,j4,j5,x8,x9,jd,j6,j7,wb,je,j8,yr,j9,wg,jf,jg,xa,xb,z7,jh,z8,ji,jj,yt,yu,xc,AV.one,wh,wi,aun,jk,xd,yw,afn,xe,Out.ren,xf,xg,jl,wj,xh,wl,jm,Eng.distinct,pos,wn,Eng.ren,wo,xi,wp,jo,wq,yg,xj,ws,wu,jp,frz,yx,yz,wv,List.lookup_cons,jq,zi,jr,js,List.range_succ,jt,xk,ju,xm,↓yh,↓yi,↓qt,↓y6,↓qu,↓qa,↓yj,↓yk,↓qv,↓qw,↓qx,↓qy,↓qb,↓qz,qc,ww,xn,jv,jw,yl,qd,qe,zj,wx,y7,jx,xp,xq,keq,y8,wy,qf,y9,ym,xr,jy,jz,xt,j0,wz,ja,j1,xu,xv,xw,jb,q5,q6,yn,q7,j2,Option.map_some,yo,qg,q8,q9,qh,ya,xx,yb,yp,yc,xy,w5,xz,x5,w6,jc,x6,Op.operands,Call.operands,yd,qi,w7,AObj.live]
  rw [aloop_list (l := v.o)
    (S := fun pre suf => { env := [(1, .d (.int .i64 d)), (2, .ptr 0 0), (39, .d (.rs 7 ((pre ++ suf).map encM))), (40, .d (.int .i64 ((pre ++ suf).length : Nat))), (41, .d (.int .i64 (pre.length : Nat)))], σ := [.box [.d (.int .i64 v.k), .d (.bool v.b), .d (.int .i64 v.n), .d (.str v.t), .d (.rs 6 (v.l.map encV)), .d (.rs 7 (v.o.map encM))] 45], dfs := [] })
    (R := fun pre suf => if mayO valid (pre.getLast?.map M.key) suf (d + 1) = 0 then some (.exit 3, { env := [], σ := [], dfs := [] }) else some (.ret, { env := [(4, .d (.int .i64 (mayO valid (pre.getLast?.map M.key) suf (d + 1))))], σ := [], dfs := [] }))
    (hs := ?_) (h0 := ?_) (h1 := ?_)]
  rotate_left
  · simp -implicitDefEqProofs [IntWalk.i64_in,IntWalk.u64_in,IntWalk.u8_in,IntWalk.i32_in,IntWalk.u32_in,ye,zk,zm,qj,qk,qm,qn,zb,zc,zn,zp,zq,qo,zd,ze,zr,zt,zu,j3,x7,zw,zf,za,zx,qp,zy,zg,zz,z6,qq,zh,yf,qr,aop,yq,j4,j5,x8,x9,jd,j6,j7,wb,je,j8,yr,j9,wg,jf,jg,xa,xb,z7,jh,z8,ji,jj,yt,yu,xc,AV.one,wh,wi,aun,jk,xd,yw,afn,xe,Out.ren,xf,xg,jl,wj,xh,wl,jm,Eng.distinct,pos,wn,Eng.ren,wo,xi,wp,jo,wq,yg,xj,ws,wu,jp,frz,yx,yz,wv,List.lookup_cons,jq,zi,jr,js,List.range_succ,jt,xk,ju,xm,↓yh,↓yi,↓qt,↓y6,↓qu,↓qa,↓yj,↓yk,↓qv,↓qw,↓qx,↓qy,↓qb,↓qz,qc,ww,xn,jv,jw,yl,qd,qe,zj,wx,y7,jx,xp,xq,keq,y8,wy,qf,y9,ym,xr,jy,jz,xt,j0,wz,ja,j1,xu,xv,xw,jb,q5,q6,yn,q7,j2,Option.map_some,yo,qg,q8,q9,qh,ya,xx,yb,yp,yc,xy,w5,xz,x5,w6,jc,x6,Op.operands,Call.operands,yd,qi,w7,AObj.live]
  · intro pre hp
    subst hp
    simp -implicitDefEqProofs [mayO, mach_loop, IntWalk.i64_in,IntWalk.u64_in,IntWalk.u8_in,IntWalk.i32_in,IntWalk.u32_in,ye,zk,zm,qj,qk,qm,qn,zb,zc,zn,zp,zq,qo,zd,ze,zr,zt,zu,j3,x7,zw,zf,za,zx,qp,zy,zg,zz,z6,qq,zh,yf,qr,aop,yq,j4,j5,x8,x9,jd,j6,j7,wb,je,j8,yr,j9,wg,jf,jg,xa,xb,z7,jh,z8,ji,jj,yt,yu,xc,AV.one,wh,wi,aun,jk,xd,yw,afn,xe,Out.ren,xf,xg,jl,wj,xh,wl,jm,Eng.distinct,pos,wn,Eng.ren,wo,xi,wp,jo,wq,yg,xj,ws,wu,jp,frz,yx,yz,wv,List.lookup_cons,jq,zi,jr,js,List.range_succ,jt,xk,ju,xm,↓yh,↓yi,↓qt,↓y6,↓qu,↓qa,↓yj,↓yk,↓qv,↓qw,↓qx,↓qy,↓qb,↓qz,qc,ww,xn,jv,jw,yl,qd,qe,zj,wx,y7,jx,xp,xq,keq,y8,wy,qf,y9,ym,xr,jy,jz,xt,j0,wz,ja,j1,xu,xv,xw,jb,q5,q6,yn,q7,j2,Option.map_some,yo,qg,q8,q9,qh,ya,xx,yb,yp,yc,xy,w5,xz,x5,w6,jc,x6,Op.operands,Call.operands,yd,qi,w7,AObj.live]
  · intro pre m suf hp ih
    have hx : m.v.size < v.size := V.size_o (by rw [← hp]; simp)
    have h4 := h3 m.v (d + 1) hx (by omega)
    have hll : pre.length < v.o.length := by rw [← hp]; simp
    have hlen := V.o_len v
    have hw2 : IntKind.i64.wrap ((pre.length : Nat) + 1) = (pre.length : Nat) + 1 := wrap64 (by omega) (by omega)
    have h2 := h2s m.key (by have := V.key_len (v := v) (m := m) (by rw [← hp]; simp); omega)
    have hmm : mayM valid m (d + 1) = mayV valid m.v (d + 1) := by obtain ⟨k, x⟩ := m; simp [mayM, M.v]
    by_cases hv : valid m.key = true
    rotate_left
    · simp -implicitDefEqProofs [mayO, mach_loop, h2, hv, hw, hw2, encM_eq, encV_eq, mid_lt, IntWalk.i64_in,IntWalk.u64_in,IntWalk.u8_in,IntWalk.i32_in,IntWalk.u32_in,ye,zk,zm,qj,qk,qm,qn,zb,zc,zn,zp,zq,qo,zd,ze,zr,zt,zu,j3,x7,zw,zf,za,zx,qp,zy,zg,zz,z6,qq,zh,yf,qr,aop,yq,j4,j5,x8,x9,jd,j6,j7,wb,je,j8,yr,j9,wg,jf,jg,xa,xb,z7,jh,z8,ji,jj,yt,yu,xc,AV.one,wh,wi,aun,jk,xd,yw,afn,xe,Out.ren,xf,xg,jl,wj,xh,wl,jm,Eng.distinct,pos,wn,Eng.ren,wo,xi,wp,jo,wq,yg,xj,ws,wu,jp,frz,yx,yz,wv,List.lookup_cons,jq,zi,jr,js,List.range_succ,jt,xk,ju,xm,↓yh,↓yi,↓qt,↓y6,↓qu,↓qa,↓yj,↓yk,↓qv,↓qw,↓qx,↓qy,↓qb,↓qz,qc,ww,xn,jv,jw,yl,qd,qe,zj,wx,y7,jx,xp,xq,keq,y8,wy,qf,y9,ym,xr,jy,jz,xt,j0,wz,ja,j1,xu,xv,xw,jb,q5,q6,yn,q7,j2,Option.map_some,yo,qg,q8,q9,qh,ya,xx,yb,yp,yc,xy,w5,xz,x5,w6,jc,x6,Op.operands,Call.operands,yd,qi,w7,AObj.live]
    by_cases hm : mayV valid m.v (d + 1) = 0
    · rcases List.eq_nil_or_concat pre with rfl | ⟨pre', q, rfl⟩
      · simp -implicitDefEqProofs [mayO, mach_loop, mach_draw, h2, h4, hv, hw, hw2, ih, encM_eq, encV_eq, mid_lt, hm, hmm, IntWalk.i64_in,IntWalk.u64_in,IntWalk.u8_in,IntWalk.i32_in,IntWalk.u32_in,ye,zk,zm,qj,qk,qm,qn,zb,zc,zn,zp,zq,qo,zd,ze,zr,zt,zu,j3,x7,zw,zf,za,zx,qp,zy,zg,zz,z6,qq,zh,yf,qr,aop,yq,j4,j5,x8,x9,jd,j6,j7,wb,je,j8,yr,j9,wg,jf,jg,xa,xb,z7,jh,z8,ji,jj,yt,yu,xc,AV.one,wh,wi,aun,jk,xd,yw,afn,xe,Out.ren,xf,xg,jl,wj,xh,wl,jm,Eng.distinct,pos,wn,Eng.ren,wo,xi,wp,jo,wq,yg,xj,ws,wu,jp,frz,yx,yz,wv,List.lookup_cons,jq,zi,jr,js,List.range_succ,jt,xk,ju,xm,↓yh,↓yi,↓qt,↓y6,↓qu,↓qa,↓yj,↓yk,↓qv,↓qw,↓qx,↓qy,↓qb,↓qz,qc,ww,xn,jv,jw,yl,qd,qe,zj,wx,y7,jx,xp,xq,keq,y8,wy,qf,y9,ym,xr,jy,jz,xt,j0,wz,ja,j1,xu,xv,xw,jb,q5,q6,yn,q7,j2,Option.map_some,yo,qg,q8,q9,qh,ya,xx,yb,yp,yc,xy,w5,xz,x5,w6,jc,x6,Op.operands,Call.operands,yd,qi,w7,AObj.live]
      · have hw3 : IntKind.i64.wrap ((pre'.length : Nat) : Int) = (pre'.length : Nat) := wrap64 (by omega) (by simp at hll; omega)
        have hq : v.o[pre'.length]? = some q := by rw [← hp]; simp
        have hw4 : IntKind.i64.wrap (((pre'.length : Nat) : Int) + 1 + 1) = (pre'.length : Nat) + 1 + 1 := wrap64 (by omega) (by simp at hll; omega)
        by_cases hk : (Op.bytesLess m.key q.key || m.key == q.key) = true
        · simp -implicitDefEqProofs [mayO, mach_loop, mach_draw, h2, h4, hv, hw, hw2, hw3, hw4, hq, ih, encM_eq, encV_eq, mid_lt, pos1, ar1, ar2, ar3, ar4, hm, hmm, hk, IntWalk.i64_in,IntWalk.u64_in,IntWalk.u8_in,IntWalk.i32_in,IntWalk.u32_in,ye,zk,zm,qj,qk,qm,qn,zb,zc,zn,zp,zq,qo,zd,ze,zr,zt,zu,j3,x7,zw,zf,za,zx,qp,zy,zg,zz,z6,qq,zh,yf,qr,aop,yq,j4,j5,x8,x9,jd,j6,j7,wb,je,j8,yr,j9,wg,jf,jg,xa,xb,z7,jh,z8,ji,jj,yt,yu,xc,AV.one,wh,wi,aun,jk,xd,yw,afn,xe,Out.ren,xf,xg,jl,wj,xh,wl,jm,Eng.distinct,pos,wn,Eng.ren,wo,xi,wp,jo,wq,yg,xj,ws,wu,jp,frz,yx,yz,wv,List.lookup_cons,jq,zi,jr,js,List.range_succ,jt,xk,ju,xm,↓yh,↓yi,↓qt,↓y6,↓qu,↓qa,↓yj,↓yk,↓qv,↓qw,↓qx,↓qy,↓qb,↓qz,qc,ww,xn,jv,jw,yl,qd,qe,zj,wx,y7,jx,xp,xq,keq,y8,wy,qf,y9,ym,xr,jy,jz,xt,j0,wz,ja,j1,xu,xv,xw,jb,q5,q6,yn,q7,j2,Option.map_some,yo,qg,q8,q9,qh,ya,xx,yb,yp,yc,xy,w5,xz,x5,w6,jc,x6,Op.operands,Call.operands,yd,qi,w7,AObj.live]
        · simp -implicitDefEqProofs [mayO, mach_loop, mach_draw, h2, h4, hv, hw, hw2, hw3, hw4, hq, encM_eq, encV_eq, mid_lt, pos1, ar1, ar2, ar3, ar4, hm, hmm, hk, IntWalk.i64_in,IntWalk.u64_in,IntWalk.u8_in,IntWalk.i32_in,IntWalk.u32_in,ye,zk,zm,qj,qk,qm,qn,zb,zc,zn,zp,zq,qo,zd,ze,zr,zt,zu,j3,x7,zw,zf,za,zx,qp,zy,zg,zz,z6,qq,zh,yf,qr,aop,yq,j4,j5,x8,x9,jd,j6,j7,wb,je,j8,yr,j9,wg,jf,jg,xa,xb,z7,jh,z8,ji,jj,yt,yu,xc,AV.one,wh,wi,aun,jk,xd,yw,afn,xe,Out.ren,xf,xg,jl,wj,xh,wl,jm,Eng.distinct,pos,wn,Eng.ren,wo,xi,wp,jo,wq,yg,xj,ws,wu,jp,frz,yx,yz,wv,List.lookup_cons,jq,zi,jr,js,List.range_succ,jt,xk,ju,xm,↓yh,↓yi,↓qt,↓y6,↓qu,↓qa,↓yj,↓yk,↓qv,↓qw,↓qx,↓qy,↓qb,↓qz,qc,ww,xn,jv,jw,yl,qd,qe,zj,wx,y7,jx,xp,xq,keq,y8,wy,qf,y9,ym,xr,jy,jz,xt,j0,wz,ja,j1,xu,xv,xw,jb,q5,q6,yn,q7,j2,Option.map_some,yo,qg,q8,q9,qh,ya,xx,yb,yp,yc,xy,w5,xz,x5,w6,jc,x6,Op.operands,Call.operands,yd,qi,w7,AObj.live]
          rw [ih _ (by simp -implicitDefEqProofs [encM_eq, encV_eq, IntWalk.i64_in,IntWalk.u64_in,IntWalk.u8_in,IntWalk.i32_in,IntWalk.u32_in,ye,zk,zm,qj,qk,qm,qn,zb,zc,zn,zp,zq,qo,zd,ze,zr,zt,zu,j3,x7,zw,zf,za,zx,qp,zy,zg,zz,z6,qq,zh,yf,qr,aop,yq,j4,j5,x8,x9,jd,j6,j7,wb,je,j8,yr,j9,wg,jf,jg,xa,xb,z7,jh,z8,ji,jj,yt,yu,xc,AV.one,wh,wi,aun,jk,xd,yw,afn,xe,Out.ren,xf,xg,jl,wj,xh,wl,jm,Eng.distinct,pos,wn,Eng.ren,wo,xi,wp,jo,wq,yg,xj,ws,wu,jp,frz,yx,yz,wv,List.lookup_cons,jq,zi,jr,js,List.range_succ,jt,xk,ju,xm,↓yh,↓yi,↓qt,↓y6,↓qu,↓qa,↓yj,↓yk,↓qv,↓qw,↓qx,↓qy,↓qb,↓qz,qc,ww,xn,jv,jw,yl,qd,qe,zj,wx,y7,jx,xp,xq,keq,y8,wy,qf,y9,ym,xr,jy,jz,xt,j0,wz,ja,j1,xu,xv,xw,jb,q5,q6,yn,q7,j2,Option.map_some,yo,qg,q8,q9,qh,ya,xx,yb,yp,yc,xy,w5,xz,x5,w6,jc,x6,Op.operands,Call.operands,yd,qi,w7,AObj.live] <;> omega)]
          simp
    · rcases List.eq_nil_or_concat pre with rfl | ⟨pre', q, rfl⟩
      · simp -implicitDefEqProofs [mayO, mach_loop, mach_draw, h2, h4, hv, hw, hw2, encM_eq, encV_eq, mid_lt, hm, hmm, IntWalk.i64_in,IntWalk.u64_in,IntWalk.u8_in,IntWalk.i32_in,IntWalk.u32_in,ye,zk,zm,qj,qk,qm,qn,zb,zc,zn,zp,zq,qo,zd,ze,zr,zt,zu,j3,x7,zw,zf,za,zx,qp,zy,zg,zz,z6,qq,zh,yf,qr,aop,yq,j4,j5,x8,x9,jd,j6,j7,wb,je,j8,yr,j9,wg,jf,jg,xa,xb,z7,jh,z8,ji,jj,yt,yu,xc,AV.one,wh,wi,aun,jk,xd,yw,afn,xe,Out.ren,xf,xg,jl,wj,xh,wl,jm,Eng.distinct,pos,wn,Eng.ren,wo,xi,wp,jo,wq,yg,xj,ws,wu,jp,frz,yx,yz,wv,List.lookup_cons,jq,zi,jr,js,List.range_succ,jt,xk,ju,xm,↓yh,↓yi,↓qt,↓y6,↓qu,↓qa,↓yj,↓yk,↓qv,↓qw,↓qx,↓qy,↓qb,↓qz,qc,ww,xn,jv,jw,yl,qd,qe,zj,wx,y7,jx,xp,xq,keq,y8,wy,qf,y9,ym,xr,jy,jz,xt,j0,wz,ja,j1,xu,xv,xw,jb,q5,q6,yn,q7,j2,Option.map_some,yo,qg,q8,q9,qh,ya,xx,yb,yp,yc,xy,w5,xz,x5,w6,jc,x6,Op.operands,Call.operands,yd,qi,w7,AObj.live]
      · have hw3 : IntKind.i64.wrap ((pre'.length : Nat) : Int) = (pre'.length : Nat) := wrap64 (by omega) (by simp at hll; omega)
        have hq : v.o[pre'.length]? = some q := by rw [← hp]; simp
        by_cases hk : (Op.bytesLess m.key q.key || m.key == q.key) = true
        · simp -implicitDefEqProofs [mayO, mach_loop, mach_draw, h2, h4, hv, hw, hw2, hw3, hq, encM_eq, encV_eq, mid_lt, pos1, ar1, ar2, ar3, ar4, hm, hmm, hk, IntWalk.i64_in,IntWalk.u64_in,IntWalk.u8_in,IntWalk.i32_in,IntWalk.u32_in,ye,zk,zm,qj,qk,qm,qn,zb,zc,zn,zp,zq,qo,zd,ze,zr,zt,zu,j3,x7,zw,zf,za,zx,qp,zy,zg,zz,z6,qq,zh,yf,qr,aop,yq,j4,j5,x8,x9,jd,j6,j7,wb,je,j8,yr,j9,wg,jf,jg,xa,xb,z7,jh,z8,ji,jj,yt,yu,xc,AV.one,wh,wi,aun,jk,xd,yw,afn,xe,Out.ren,xf,xg,jl,wj,xh,wl,jm,Eng.distinct,pos,wn,Eng.ren,wo,xi,wp,jo,wq,yg,xj,ws,wu,jp,frz,yx,yz,wv,List.lookup_cons,jq,zi,jr,js,List.range_succ,jt,xk,ju,xm,↓yh,↓yi,↓qt,↓y6,↓qu,↓qa,↓yj,↓yk,↓qv,↓qw,↓qx,↓qy,↓qb,↓qz,qc,ww,xn,jv,jw,yl,qd,qe,zj,wx,y7,jx,xp,xq,keq,y8,wy,qf,y9,ym,xr,jy,jz,xt,j0,wz,ja,j1,xu,xv,xw,jb,q5,q6,yn,q7,j2,Option.map_some,yo,qg,q8,q9,qh,ya,xx,yb,yp,yc,xy,w5,xz,x5,w6,jc,x6,Op.operands,Call.operands,yd,qi,w7,AObj.live]
        · simp -implicitDefEqProofs [mayO, mach_loop, mach_draw, h2, h4, hv, hw, hw2, hw3, hq, encM_eq, encV_eq, mid_lt, pos1, ar1, ar2, ar3, ar4, hm, hmm, hk, IntWalk.i64_in,IntWalk.u64_in,IntWalk.u8_in,IntWalk.i32_in,IntWalk.u32_in,ye,zk,zm,qj,qk,qm,qn,zb,zc,zn,zp,zq,qo,zd,ze,zr,zt,zu,j3,x7,zw,zf,za,zx,qp,zy,zg,zz,z6,qq,zh,yf,qr,aop,yq,j4,j5,x8,x9,jd,j6,j7,wb,je,j8,yr,j9,wg,jf,jg,xa,xb,z7,jh,z8,ji,jj,yt,yu,xc,AV.one,wh,wi,aun,jk,xd,yw,afn,xe,Out.ren,xf,xg,jl,wj,xh,wl,jm,Eng.distinct,pos,wn,Eng.ren,wo,xi,wp,jo,wq,yg,xj,ws,wu,jp,frz,yx,yz,wv,List.lookup_cons,jq,zi,jr,js,List.range_succ,jt,xk,ju,xm,↓yh,↓yi,↓qt,↓y6,↓qu,↓qa,↓yj,↓yk,↓qv,↓qw,↓qx,↓qy,↓qb,↓qz,qc,ww,xn,jv,jw,yl,qd,qe,zj,wx,y7,jx,xp,xq,keq,y8,wy,qf,y9,ym,xr,jy,jz,xt,j0,wz,ja,j1,xu,xv,xw,jb,q5,q6,yn,q7,j2,Option.map_some,yo,qg,q8,q9,qh,ya,xx,yb,yp,yc,xy,w5,xz,x5,w6,jc,x6,Op.operands,Call.operands,yd,qi,w7,AObj.live]
  by_cases ho : mayO valid none v.o (d + 1) = 0
  · simp -implicitDefEqProofs [mach_loop, ho, R, IntWalk.i64_in,IntWalk.u64_in,IntWalk.u8_in,IntWalk.i32_in,IntWalk.u32_in,ye,zk,zm,qj,qk,qm,qn,zb,zc,zn,zp,zq,qo,zd,ze,zr,zt,zu,j3,x7,zw,zf,za,zx,qp,zy,zg,zz,z6,qq,zh,yf,qr,aop,yq,j4,j5,x8,x9,jd,j6,j7,wb,je,j8,yr,j9,wg,jf,jg,xa,xb,z7,jh,z8,ji,jj,yt,yu,xc,AV.one,wh,wi,aun,jk,xd,yw,afn,xe,Out.ren,xf,xg,jl,wj,xh,wl,jm,Eng.distinct,pos,wn,Eng.ren,wo,xi,wp,jo,wq,yg,xj,ws,wu,jp,frz,yx,yz,wv,List.lookup_cons,jq,zi,jr,js,List.range_succ,jt,xk,ju,xm,↓yh,↓yi,↓qt,↓y6,↓qu,↓qa,↓yj,↓yk,↓qv,↓qw,↓qx,↓qy,↓qb,↓qz,qc,ww,xn,jv,jw,yl,qd,qe,zj,wx,y7,jx,xp,xq,keq,y8,wy,qf,y9,ym,xr,jy,jz,xt,j0,wz,ja,j1,xu,xv,xw,jb,q5,q6,yn,q7,j2,Option.map_some,yo,qg,q8,q9,qh,ya,xx,yb,yp,yc,xy,w5,xz,x5,w6,jc,x6,Op.operands,Call.operands,yd,qi,w7,AObj.live]
  · simp -implicitDefEqProofs [mach_loop, ho, R, IntWalk.i64_in,IntWalk.u64_in,IntWalk.u8_in,IntWalk.i32_in,IntWalk.u32_in,ye,zk,zm,qj,qk,qm,qn,zb,zc,zn,zp,zq,qo,zd,ze,zr,zt,zu,j3,x7,zw,zf,za,zx,qp,zy,zg,zz,z6,qq,zh,yf,qr,aop,yq,j4,j5,x8,x9,jd,j6,j7,wb,je,j8,yr,j9,wg,jf,jg,xa,xb,z7,jh,z8,ji,jj,yt,yu,xc,AV.one,wh,wi,aun,jk,xd,yw,afn,xe,Out.ren,xf,xg,jl,wj,xh,wl,jm,Eng.distinct,pos,wn,Eng.ren,wo,xi,wp,jo,wq,yg,xj,ws,wu,jp,frz,yx,yz,wv,List.lookup_cons,jq,zi,jr,js,List.range_succ,jt,xk,ju,xm,↓yh,↓yi,↓qt,↓y6,↓qu,↓qa,↓yj,↓yk,↓qv,↓qw,↓qx,↓qy,↓qb,↓qz,qc,ww,xn,jv,jw,yl,qd,qe,zj,wx,y7,jx,xp,xq,keq,y8,wy,qf,y9,ym,xr,jy,jz,xt,j0,wz,ja,j1,xu,xv,xw,jb,q5,q6,yn,q7,j2,Option.map_some,yo,qg,q8,q9,qh,ya,xx,yb,yp,yc,xy,w5,xz,x5,w6,jc,x6,Op.operands,Call.operands,yd,qi,w7,AObj.live]
end Go.Proofs.YtblejchodicaoaaGreatDoor.Eng

/-
  MODELS: what the functions compute, in plain Lean. Own work.
-/
namespace Go.Proofs.YtblejchodicaoaaGreatDoor.Eng
open Go Go.RowKit

/-- Is it a text? -/
def validU (s : List UInt8) : Bool := Lib.validD s
/-- A rune of a text, and how many bytes it has. -/
def decU (s : List UInt8) : Nat × Nat := Lib.decodeL s
/-- The runes, with their places. -/
def runesU : Nat → Nat → List UInt8 → List (Nat × Nat)
  | 0, _, _ => []
  | f + 1, i, s => if s = [] then [] else if (decU s).1 = 65533 ∧ (decU s).2 < 2 then [] else (i, (decU s).1) :: runesU f (i + (decU s).2) (s.drop (decU s).2)
def hexU (n : Nat) : UInt8 := if n < 10 then UInt8.ofNat (48 + n) else UInt8.ofNat (87 + n)
def escU (r : Nat) : List UInt8 :=
  if r = 34 then [92, 34] else if r = 92 then [92, 92] else if r = 8 then [92, 98] else if r = 9 then [92, 116] else if r = 10 then [92, 110] else if r = 12 then [92, 102] else if r = 13 then [92, 114]
  else if r < 32 then [92, 117, 48, 48, hexU (r / 16), hexU (r % 16)] else Lib.encodeRune r
def quoteU (s : List UInt8) : List UInt8 := if validU s = true then 34 :: (((runesU s.length 0 s).map fun p => escU p.2).flatten ++ [34]) else []

mutual
def textV : V → List UInt8
  | .mk k b n t l o =>
    if k = 1 then [110, 117, 108, 108]
    else if k = 2 then (if b then [116, 114, 117, 101] else [102, 97, 108, 115, 101])
    else if k = 3 then Lib.itoa n
    else if k = 4 then quoteU t
    else if k = 5 then 91 :: (Lib.join (textL l ++ textO o) [44] ++ [93])
    else if k = 6 then 123 :: (Lib.join (textL l ++ textO o) [44] ++ [125])
    else []
def textM : M → List UInt8
  | .mk k v => quoteU k ++ [58] ++ textV v
def textL : List V → List (List UInt8)
  | [] => []
  | x :: r => textV x :: textL r
def textO : List M → List (List UInt8)
  | [] => []
  | m :: r => textM m :: textO r
end
theorem textL_map (l : List V) : textL l = l.map textV := by
  induction l with
  | nil => simp [textL]
  | cons v r ih => simp [textL, ih]
theorem textO_map (l : List M) : textO l = l.map textM := by
  induction l with
  | nil => simp [textO]
  | cons v r ih => simp [textO, ih]

def withinV (v : V) : List V := if v.k = 6 then v.o.map M.v else if v.k = 5 then v.l else []
mutual
def deepV : V → Int
  | .mk k _ _ _ l o => (if k = 6 then deepO o else if k = 5 then deepL l else 0) + 1
def deepM : M → Int
  | .mk _ v => deepV v
def deepL : List V → Int
  | [] => 0
  | x :: r => max (deepV x) (deepL r)
def deepO : List M → Int
  | [] => 0
  | m :: r => max (deepM m) (deepO r)
end
end Go.Proofs.YtblejchodicaoaaGreatDoor.Eng

/-
  CONTRACTS: keys; text, bytes, short, fits. Own work.
-/
namespace Go.Proofs.YtblejchodicaoaaGreatDoor.Eng
open Go Go.RowKit
set_option maxRecDepth 100000
set_option linter.unusedSimpArgs false
set_option maxHeartbeats 2000000

def keyMay (k : List UInt8) : Int := if k = [] then 8 else if 64 < k.length then 6 else if validU k = true then 0 else 3
def rulesD : D := .rs 2 [[.int .i64 8, .fn (.func 140) [] []], [.int .i64 6, .fn (.func 141) [] []], [.int .i64 3, .fn (.func 142) [] []]]
def mayTop (v : V) : Int := mayV validU v 1
def textOf (v : V) : List UInt8 := if mayTop v = 0 then textV v else []
def shortV (v : V) (n : Int) : Int := if mayTop v = 0 then (if n < (textV v).length then 6 else 0) else mayTop v
def fitsV (v : V) : Int := if (shortV v 1024 = 0 ∨ shortV v 1024 = 6) ∧ 16 < deepV v then 5 else shortV v 1024

theorem b_rule1 (C : Oracle) (k : List UInt8) : abody Tryz.prog [] C (mach Tryz.prog C {}) true 140 [.d (.str k)] [] = R (.bool (decide (k = []))) := by
  unfold abody
  rw [Tryz.func140]
  simp only [Tryz.f140]
  cases k <;> simp -implicitDefEqProofs [R, IntWalk.i64_in,IntWalk.u64_in,IntWalk.u8_in,IntWalk.i32_in,IntWalk.u32_in,ye,zk,zm,qj,qk,qm,qn,zb,zc,zn,zp,zq,qo,zd,ze,zr,zt,zu,j3,x7,zw,zf,za,zx,qp,zy,zg,zz,z6,qq,zh,yf,qr,aop,yq,j4,j5,x8,x9,jd,j6,j7,wb,je,j8,yr,j9,wg,jf,jg,xa,xb,z7,jh,z8,ji,jj,yt,yu,xc,AV.one,wh,wi,aun,jk,xd,yw,afn,xe,Out.ren,xf,xg,jl,wj,xh,wl,jm,Eng.distinct,pos,wn,Eng.ren,wo,xi,wp,jo,wq,yg,xj,ws,wu,jp,frz,yx,yz,wv,List.lookup_cons,jq,zi,jr,js,List.range_succ,jt,xk,ju,xm,↓yh,↓yi,↓qt,↓y6,↓qu,↓qa,↓yj,↓yk,↓qv,↓qw,↓qx,↓qy,↓qb,↓qz,qc,ww,xn,jv,jw,yl,qd,qe,zj,wx,y7,jx,xp,xq,keq,y8,wy,qf,y9,ym,xr,jy,jz,xt,j0,wz,ja,j1,xu,xv,xw,jb,q5,q6,yn,q7,j2,Option.map_some,yo,qg,q8,q9,qh,ya,xx,yb,yp,yc,xy,w5,xz,x5,w6,jc,x6,Op.operands,Call.operands,yd,qi,w7,AObj.live]
theorem b_rule2 (C : Oracle) (k : List UInt8) : abody Tryz.prog [] C (mach Tryz.prog C {}) true 141 [.d (.str k)] [] = R (.bool (decide (64 < k.length))) := by
  unfold abody
  rw [Tryz.func141]
  simp only [Tryz.f141]
  simp -implicitDefEqProofs [R, IntWalk.i64_in,IntWalk.u64_in,IntWalk.u8_in,IntWalk.i32_in,IntWalk.u32_in,ye,zk,zm,qj,qk,qm,qn,zb,zc,zn,zp,zq,qo,zd,ze,zr,zt,zu,j3,x7,zw,zf,za,zx,qp,zy,zg,zz,z6,qq,zh,yf,qr,aop,yq,j4,j5,x8,x9,jd,j6,j7,wb,je,j8,yr,j9,wg,jf,jg,xa,xb,z7,jh,z8,ji,jj,yt,yu,xc,AV.one,wh,wi,aun,jk,xd,yw,afn,xe,Out.ren,xf,xg,jl,wj,xh,wl,jm,Eng.distinct,pos,wn,Eng.ren,wo,xi,wp,jo,wq,yg,xj,ws,wu,jp,frz,yx,yz,wv,List.lookup_cons,jq,zi,jr,js,List.range_succ,jt,xk,ju,xm,↓yh,↓yi,↓qt,↓y6,↓qu,↓qa,↓yj,↓yk,↓qv,↓qw,↓qx,↓qy,↓qb,↓qz,qc,ww,xn,jv,jw,yl,qd,qe,zj,wx,y7,jx,xp,xq,keq,y8,wy,qf,y9,ym,xr,jy,jz,xt,j0,wz,ja,j1,xu,xv,xw,jb,q5,q6,yn,q7,j2,Option.map_some,yo,qg,q8,q9,qh,ya,xx,yb,yp,yc,xy,w5,xz,x5,w6,jc,x6,Op.operands,Call.operands,yd,qi,w7,AObj.live]
  omega
theorem b_rule3 (C : Oracle) (k : List UInt8) (h : C 124 [.d (.str k)] [] = R (.bool (validU k))) : abody Tryz.prog [] C (mach Tryz.prog C {}) true 142 [.d (.str k)] [] = R (.bool (!validU k)) := by
  unfold abody
  rw [Tryz.func142]
  simp only [Tryz.f142]
  simp only [R] at h
  simp -implicitDefEqProofs [R, h, IntWalk.i64_in,IntWalk.u64_in,IntWalk.u8_in,IntWalk.i32_in,IntWalk.u32_in,ye,zk,zm,qj,qk,qm,qn,zb,zc,zn,zp,zq,qo,zd,ze,zr,zt,zu,j3,x7,zw,zf,za,zx,qp,zy,zg,zz,z6,qq,zh,yf,qr,aop,yq,j4,j5,x8,x9,jd,j6,j7,wb,je,j8,yr,j9,wg,jf,jg,xa,xb,z7,jh,z8,ji,jj,yt,yu,xc,AV.one,wh,wi,aun,jk,xd,yw,afn,xe,Out.ren,xf,xg,jl,wj,xh,wl,jm,Eng.distinct,pos,wn,Eng.ren,wo,xi,wp,jo,wq,yg,xj,ws,wu,jp,frz,yx,yz,wv,List.lookup_cons,jq,zi,jr,js,List.range_succ,jt,xk,ju,xm,↓yh,↓yi,↓qt,↓y6,↓qu,↓qa,↓yj,↓yk,↓qv,↓qw,↓qx,↓qy,↓qb,↓qz,qc,ww,xn,jv,jw,yl,qd,qe,zj,wx,y7,jx,xp,xq,keq,y8,wy,qf,y9,ym,xr,jy,jz,xt,j0,wz,ja,j1,xu,xv,xw,jb,q5,q6,yn,q7,j2,Option.map_some,yo,qg,q8,q9,qh,ya,xx,yb,yp,yc,xy,w5,xz,x5,w6,jc,x6,Op.operands,Call.operands,yd,qi,w7,AObj.live]
theorem b_Valid (C : Oracle) (k : List UInt8) (h : C 159 [.d (.str k)] [] = R (.bool (validU k))) : abody Tryz.prog [] C (mach Tryz.prog C {}) true 124 [.d (.str k)] [] = R (.bool (validU k)) := by
  unfold abody
  rw [Tryz.func124]
  simp only [Tryz.f124]
  simp only [R] at h
  simp -implicitDefEqProofs [R, h, IntWalk.i64_in,IntWalk.u64_in,IntWalk.u8_in,IntWalk.i32_in,IntWalk.u32_in,ye,zk,zm,qj,qk,qm,qn,zb,zc,zn,zp,zq,qo,zd,ze,zr,zt,zu,j3,x7,zw,zf,za,zx,qp,zy,zg,zz,z6,qq,zh,yf,qr,aop,yq,j4,j5,x8,x9,jd,j6,j7,wb,je,j8,yr,j9,wg,jf,jg,xa,xb,z7,jh,z8,ji,jj,yt,yu,xc,AV.one,wh,wi,aun,jk,xd,yw,afn,xe,Out.ren,xf,xg,jl,wj,xh,wl,jm,Eng.distinct,pos,wn,Eng.ren,wo,xi,wp,jo,wq,yg,xj,ws,wu,jp,frz,yx,yz,wv,List.lookup_cons,jq,zi,jr,js,List.range_succ,jt,xk,ju,xm,↓yh,↓yi,↓qt,↓y6,↓qu,↓qa,↓yj,↓yk,↓qv,↓qw,↓qx,↓qy,↓qb,↓qz,qc,ww,xn,jv,jw,yl,qd,qe,zj,wx,y7,jx,xp,xq,keq,y8,wy,qf,y9,ym,xr,jy,jz,xt,j0,wz,ja,j1,xu,xv,xw,jb,q5,q6,yn,q7,j2,Option.map_some,yo,qg,q8,q9,qh,ya,xx,yb,yp,yc,xy,w5,xz,x5,w6,jc,x6,Op.operands,Call.operands,yd,qi,w7,AObj.live]
theorem b_rules (C : Oracle) : abody Tryz.prog [] C (mach Tryz.prog C {}) true 111 [] [] = R rulesD := by
  unfold abody
  rw [Tryz.func111]
  simp only [Tryz.f111]
  simp -implicitDefEqProofs [R, rulesD, IntWalk.i64_in,IntWalk.u64_in,IntWalk.u8_in,IntWalk.i32_in,IntWalk.u32_in,ye,zk,zm,qj,qk,qm,qn,zb,zc,zn,zp,zq,qo,zd,ze,zr,zt,zu,j3,x7,zw,zf,za,zx,qp,zy,zg,zz,z6,qq,zh,yf,qr,aop,yq,j4,j5,x8,x9,jd,j6,j7,wb,je,j8,yr,j9,wg,jf,jg,xa,xb,z7,jh,z8,ji,jj,yt,yu,xc,AV.one,wh,wi,aun,jk,xd,yw,afn,xe,Out.ren,xf,xg,jl,wj,xh,wl,jm,Eng.distinct,pos,wn,Eng.ren,wo,xi,wp,jo,wq,yg,xj,ws,wu,jp,frz,yx,yz,wv,List.lookup_cons,jq,zi,jr,js,List.range_succ,jt,xk,ju,xm,↓yh,↓yi,↓qt,↓y6,↓qu,↓qa,↓yj,↓yk,↓qv,↓qw,↓qx,↓qy,↓qb,↓qz,qc,ww,xn,jv,jw,yl,qd,qe,zj,wx,y7,jx,xp,xq,keq,y8,wy,qf,y9,ym,xr,jy,jz,xt,j0,wz,ja,j1,xu,xv,xw,jb,q5,q6,yn,q7,j2,Option.map_some,yo,qg,q8,q9,qh,ya,xx,yb,yp,yc,xy,w5,xz,x5,w6,jc,x6,Op.operands,Call.operands,yd,qi,w7,AObj.live]
theorem b_keysMay (C : Oracle) (k : List UInt8) (h0 : C 111 [] [] = R rulesD) (h1 : C 140 [.d (.str k)] [] = R (.bool (decide (k = [])))) (h2 : C 141 [.d (.str k)] [] = R (.bool (decide (64 < k.length))))
    (h3 : C 142 [.d (.str k)] [] = R (.bool (!validU k))) :
    abody Tryz.prog [] C (mach Tryz.prog C { keep := [(26, [0, 5, 6, 7])], outs := [(26, [2])] }) true 79 [.d (.str k)] [] = R (.int .i64 (keyMay k)) := by
  unfold abody
  rw [Tryz.func79]
  simp only [Tryz.f79]
  simp only [R, rulesD] at h0 h1 h2 h3
  simp -implicitDefEqProofs [R, h0, mach_loop, IntWalk.i64_in,IntWalk.u64_in,IntWalk.u8_in,IntWalk.i32_in,IntWalk.u32_in,ye,zk,zm,qj,qk,qm,qn,zb,zc,zn,zp,zq,qo,zd,ze,zr,zt,zu,j3,x7,zw,zf,za,zx,qp,zy,zg,zz,z6,qq,zh,yf,qr,aop,yq,j4,j5,x8,x9,jd,j6,j7,wb,je,j8,yr,j9,wg,jf,jg,xa,xb,z7,jh,z8,ji,jj,yt,yu,xc,AV.one,wh,wi,aun,jk,xd,yw,afn,xe,Out.ren,xf,xg,jl,wj,xh,wl,jm,Eng.distinct,pos,wn,Eng.ren,wo,xi,wp,jo,wq,yg,xj,ws,wu,jp,frz,yx,yz,wv,List.lookup_cons,jq,zi,jr,js,List.range_succ,jt,xk,ju,xm,↓yh,↓yi,↓qt,↓y6,↓qu,↓qa,↓yj,↓yk,↓qv,↓qw,↓qx,↓qy,↓qb,↓qz,qc,ww,xn,jv,jw,yl,qd,qe,zj,wx,y7,jx,xp,xq,keq,y8,wy,qf,y9,ym,xr,jy,jz,xt,j0,wz,ja,j1,xu,xv,xw,jb,q5,q6,yn,q7,j2,Option.map_some,yo,qg,q8,q9,qh,ya,xx,yb,yp,yc,xy,w5,xz,x5,w6,jc,x6,Op.operands,Call.operands,yd,qi,w7,AObj.live]
  by_cases e1 : k = []
  · subst e1
    rw [aloop_round]
    simp -implicitDefEqProofs [R, h0, h1, keyMay, mach_loop, IntWalk.i64_in,IntWalk.u64_in,IntWalk.u8_in,IntWalk.i32_in,IntWalk.u32_in,ye,zk,zm,qj,qk,qm,qn,zb,zc,zn,zp,zq,qo,zd,ze,zr,zt,zu,j3,x7,zw,zf,za,zx,qp,zy,zg,zz,z6,qq,zh,yf,qr,aop,yq,j4,j5,x8,x9,jd,j6,j7,wb,je,j8,yr,j9,wg,jf,jg,xa,xb,z7,jh,z8,ji,jj,yt,yu,xc,AV.one,wh,wi,aun,jk,xd,yw,afn,xe,Out.ren,xf,xg,jl,wj,xh,wl,jm,Eng.distinct,pos,wn,Eng.ren,wo,xi,wp,jo,wq,yg,xj,ws,wu,jp,frz,yx,yz,wv,List.lookup_cons,jq,zi,jr,js,List.range_succ,jt,xk,ju,xm,↓yh,↓yi,↓qt,↓y6,↓qu,↓qa,↓yj,↓yk,↓qv,↓qw,↓qx,↓qy,↓qb,↓qz,qc,ww,xn,jv,jw,yl,qd,qe,zj,wx,y7,jx,xp,xq,keq,y8,wy,qf,y9,ym,xr,jy,jz,xt,j0,wz,ja,j1,xu,xv,xw,jb,q5,q6,yn,q7,j2,Option.map_some,yo,qg,q8,q9,qh,ya,xx,yb,yp,yc,xy,w5,xz,x5,w6,jc,x6,Op.operands,Call.operands,yd,qi,w7,AObj.live]
  by_cases e2 : 64 < k.length
  · rw [aloop_round]
    simp -implicitDefEqProofs [R, h0, h1, h2, e1, e2, keyMay, mach_loop, IntWalk.i64_in,IntWalk.u64_in,IntWalk.u8_in,IntWalk.i32_in,IntWalk.u32_in,ye,zk,zm,qj,qk,qm,qn,zb,zc,zn,zp,zq,qo,zd,ze,zr,zt,zu,j3,x7,zw,zf,za,zx,qp,zy,zg,zz,z6,qq,zh,yf,qr,aop,yq,j4,j5,x8,x9,jd,j6,j7,wb,je,j8,yr,j9,wg,jf,jg,xa,xb,z7,jh,z8,ji,jj,yt,yu,xc,AV.one,wh,wi,aun,jk,xd,yw,afn,xe,Out.ren,xf,xg,jl,wj,xh,wl,jm,Eng.distinct,pos,wn,Eng.ren,wo,xi,wp,jo,wq,yg,xj,ws,wu,jp,frz,yx,yz,wv,List.lookup_cons,jq,zi,jr,js,List.range_succ,jt,xk,ju,xm,↓yh,↓yi,↓qt,↓y6,↓qu,↓qa,↓yj,↓yk,↓qv,↓qw,↓qx,↓qy,↓qb,↓qz,qc,ww,xn,jv,jw,yl,qd,qe,zj,wx,y7,jx,xp,xq,keq,y8,wy,qf,y9,ym,xr,jy,jz,xt,j0,wz,ja,j1,xu,xv,xw,jb,q5,q6,yn,q7,j2,Option.map_some,yo,qg,q8,q9,qh,ya,xx,yb,yp,yc,xy,w5,xz,x5,w6,jc,x6,Op.operands,Call.operands,yd,qi,w7,AObj.live]
    rw [aloop_round]
    simp -implicitDefEqProofs [R, h0, h1, h2, e1, e2, keyMay, mach_loop, IntWalk.i64_in,IntWalk.u64_in,IntWalk.u8_in,IntWalk.i32_in,IntWalk.u32_in,ye,zk,zm,qj,qk,qm,qn,zb,zc,zn,zp,zq,qo,zd,ze,zr,zt,zu,j3,x7,zw,zf,za,zx,qp,zy,zg,zz,z6,qq,zh,yf,qr,aop,yq,j4,j5,x8,x9,jd,j6,j7,wb,je,j8,yr,j9,wg,jf,jg,xa,xb,z7,jh,z8,ji,jj,yt,yu,xc,AV.one,wh,wi,aun,jk,xd,yw,afn,xe,Out.ren,xf,xg,jl,wj,xh,wl,jm,Eng.distinct,pos,wn,Eng.ren,wo,xi,wp,jo,wq,yg,xj,ws,wu,jp,frz,yx,yz,wv,List.lookup_cons,jq,zi,jr,js,List.range_succ,jt,xk,ju,xm,↓yh,↓yi,↓qt,↓y6,↓qu,↓qa,↓yj,↓yk,↓qv,↓qw,↓qx,↓qy,↓qb,↓qz,qc,ww,xn,jv,jw,yl,qd,qe,zj,wx,y7,jx,xp,xq,keq,y8,wy,qf,y9,ym,xr,jy,jz,xt,j0,wz,ja,j1,xu,xv,xw,jb,q5,q6,yn,q7,j2,Option.map_some,yo,qg,q8,q9,qh,ya,xx,yb,yp,yc,xy,w5,xz,x5,w6,jc,x6,Op.operands,Call.operands,yd,qi,w7,AObj.live]
  rw [aloop_round]
  simp -implicitDefEqProofs [R, h0, h1, h2, h3, e1, e2, keyMay, mach_loop, IntWalk.i64_in,IntWalk.u64_in,IntWalk.u8_in,IntWalk.i32_in,IntWalk.u32_in,ye,zk,zm,qj,qk,qm,qn,zb,zc,zn,zp,zq,qo,zd,ze,zr,zt,zu,j3,x7,zw,zf,za,zx,qp,zy,zg,zz,z6,qq,zh,yf,qr,aop,yq,j4,j5,x8,x9,jd,j6,j7,wb,je,j8,yr,j9,wg,jf,jg,xa,xb,z7,jh,z8,ji,jj,yt,yu,xc,AV.one,wh,wi,aun,jk,xd,yw,afn,xe,Out.ren,xf,xg,jl,wj,xh,wl,jm,Eng.distinct,pos,wn,Eng.ren,wo,xi,wp,jo,wq,yg,xj,ws,wu,jp,frz,yx,yz,wv,List.lookup_cons,jq,zi,jr,js,List.range_succ,jt,xk,ju,xm,↓yh,↓yi,↓qt,↓y6,↓qu,↓qa,↓yj,↓yk,↓qv,↓qw,↓qx,↓qy,↓qb,↓qz,qc,ww,xn,jv,jw,yl,qd,qe,zj,wx,y7,jx,xp,xq,keq,y8,wy,qf,y9,ym,xr,jy,jz,xt,j0,wz,ja,j1,xu,xv,xw,jb,q5,q6,yn,q7,j2,Option.map_some,yo,qg,q8,q9,qh,ya,xx,yb,yp,yc,xy,w5,xz,x5,w6,jc,x6,Op.operands,Call.operands,yd,qi,w7,AObj.live]
  rw [aloop_round]
  simp -implicitDefEqProofs [R, h0, h1, h2, h3, e1, e2, keyMay, mach_loop, IntWalk.i64_in,IntWalk.u64_in,IntWalk.u8_in,IntWalk.i32_in,IntWalk.u32_in,ye,zk,zm,qj,qk,qm,qn,zb,zc,zn,zp,zq,qo,zd,ze,zr,zt,zu,j3,x7,zw,zf,za,zx,qp,zy,zg,zz,z6,qq,zh,yf,qr,aop,yq,j4,j5,x8,x9,jd,j6,j7,wb,je,j8,yr,j9,wg,jf,jg,xa,xb,z7,jh,z8,ji,jj,yt,yu,xc,AV.one,wh,wi,aun,jk,xd,yw,afn,xe,Out.ren,xf,xg,jl,wj,xh,wl,jm,Eng.distinct,pos,wn,Eng.ren,wo,xi,wp,jo,wq,yg,xj,ws,wu,jp,frz,yx,yz,wv,List.lookup_cons,jq,zi,jr,js,List.range_succ,jt,xk,ju,xm,↓yh,↓yi,↓qt,↓y6,↓qu,↓qa,↓yj,↓yk,↓qv,↓qw,↓qx,↓qy,↓qb,↓qz,qc,ww,xn,jv,jw,yl,qd,qe,zj,wx,y7,jx,xp,xq,keq,y8,wy,qf,y9,ym,xr,jy,jz,xt,j0,wz,ja,j1,xu,xv,xw,jb,q5,q6,yn,q7,j2,Option.map_some,yo,qg,q8,q9,qh,ya,xx,yb,yp,yc,xy,w5,xz,x5,w6,jc,x6,Op.operands,Call.operands,yd,qi,w7,AObj.live]
  rw [aloop_round]
  by_cases e3 : validU k = true
  · simp -implicitDefEqProofs [R, h0, h1, h2, h3, e1, e2, e3, keyMay, mach_loop, IntWalk.i64_in,IntWalk.u64_in,IntWalk.u8_in,IntWalk.i32_in,IntWalk.u32_in,ye,zk,zm,qj,qk,qm,qn,zb,zc,zn,zp,zq,qo,zd,ze,zr,zt,zu,j3,x7,zw,zf,za,zx,qp,zy,zg,zz,z6,qq,zh,yf,qr,aop,yq,j4,j5,x8,x9,jd,j6,j7,wb,je,j8,yr,j9,wg,jf,jg,xa,xb,z7,jh,z8,ji,jj,yt,yu,xc,AV.one,wh,wi,aun,jk,xd,yw,afn,xe,Out.ren,xf,xg,jl,wj,xh,wl,jm,Eng.distinct,pos,wn,Eng.ren,wo,xi,wp,jo,wq,yg,xj,ws,wu,jp,frz,yx,yz,wv,List.lookup_cons,jq,zi,jr,js,List.range_succ,jt,xk,ju,xm,↓yh,↓yi,↓qt,↓y6,↓qu,↓qa,↓yj,↓yk,↓qv,↓qw,↓qx,↓qy,↓qb,↓qz,qc,ww,xn,jv,jw,yl,qd,qe,zj,wx,y7,jx,xp,xq,keq,y8,wy,qf,y9,ym,xr,jy,jz,xt,j0,wz,ja,j1,xu,xv,xw,jb,q5,q6,yn,q7,j2,Option.map_some,yo,qg,q8,q9,qh,ya,xx,yb,yp,yc,xy,w5,xz,x5,w6,jc,x6,Op.operands,Call.operands,yd,qi,w7,AObj.live]
    rw [aloop_round]
    simp -implicitDefEqProofs [R, h0, h1, h2, h3, e1, e2, e3, keyMay, mach_loop, IntWalk.i64_in,IntWalk.u64_in,IntWalk.u8_in,IntWalk.i32_in,IntWalk.u32_in,ye,zk,zm,qj,qk,qm,qn,zb,zc,zn,zp,zq,qo,zd,ze,zr,zt,zu,j3,x7,zw,zf,za,zx,qp,zy,zg,zz,z6,qq,zh,yf,qr,aop,yq,j4,j5,x8,x9,jd,j6,j7,wb,je,j8,yr,j9,wg,jf,jg,xa,xb,z7,jh,z8,ji,jj,yt,yu,xc,AV.one,wh,wi,aun,jk,xd,yw,afn,xe,Out.ren,xf,xg,jl,wj,xh,wl,jm,Eng.distinct,pos,wn,Eng.ren,wo,xi,wp,jo,wq,yg,xj,ws,wu,jp,frz,yx,yz,wv,List.lookup_cons,jq,zi,jr,js,List.range_succ,jt,xk,ju,xm,↓yh,↓yi,↓qt,↓y6,↓qu,↓qa,↓yj,↓yk,↓qv,↓qw,↓qx,↓qy,↓qb,↓qz,qc,ww,xn,jv,jw,yl,qd,qe,zj,wx,y7,jx,xp,xq,keq,y8,wy,qf,y9,ym,xr,jy,jz,xt,j0,wz,ja,j1,xu,xv,xw,jb,q5,q6,yn,q7,j2,Option.map_some,yo,qg,q8,q9,qh,ya,xx,yb,yp,yc,xy,w5,xz,x5,w6,jc,x6,Op.operands,Call.operands,yd,qi,w7,AObj.live]
  · simp -implicitDefEqProofs [R, h0, h1, h2, h3, e1, e2, e3, keyMay, mach_loop, IntWalk.i64_in,IntWalk.u64_in,IntWalk.u8_in,IntWalk.i32_in,IntWalk.u32_in,ye,zk,zm,qj,qk,qm,qn,zb,zc,zn,zp,zq,qo,zd,ze,zr,zt,zu,j3,x7,zw,zf,za,zx,qp,zy,zg,zz,z6,qq,zh,yf,qr,aop,yq,j4,j5,x8,x9,jd,j6,j7,wb,je,j8,yr,j9,wg,jf,jg,xa,xb,z7,jh,z8,ji,jj,yt,yu,xc,AV.one,wh,wi,aun,jk,xd,yw,afn,xe,Out.ren,xf,xg,jl,wj,xh,wl,jm,Eng.distinct,pos,wn,Eng.ren,wo,xi,wp,jo,wq,yg,xj,ws,wu,jp,frz,yx,yz,wv,List.lookup_cons,jq,zi,jr,js,List.range_succ,jt,xk,ju,xm,↓yh,↓yi,↓qt,↓y6,↓qu,↓qa,↓yj,↓yk,↓qv,↓qw,↓qx,↓qy,↓qb,↓qz,qc,ww,xn,jv,jw,yl,qd,qe,zj,wx,y7,jx,xp,xq,keq,y8,wy,qf,y9,ym,xr,jy,jz,xt,j0,wz,ja,j1,xu,xv,xw,jb,q5,q6,yn,q7,j2,Option.map_some,yo,qg,q8,q9,qh,ya,xx,yb,yp,yc,xy,w5,xz,x5,w6,jc,x6,Op.operands,Call.operands,yd,qi,w7,AObj.live]

theorem b_May (C : Oracle) (v : V) (h : C 98 [avV v, .d (.int .i64 1)] [] = R (.int .i64 (mayV validU v 1))) : abody Tryz.prog [] C (mach Tryz.prog C {}) true 70 [avV v] [] = R (.int .i64 (mayTop v)) := by
  have h1 := h
  simp only [R, avV] at h1
  unfold abody
  rw [Tryz.func70]
  simp only [Tryz.f70]
  simp -implicitDefEqProofs [R, avV, mayTop, h1, IntWalk.i64_in,IntWalk.u64_in,IntWalk.u8_in,IntWalk.i32_in,IntWalk.u32_in,ye,zk,zm,qj,qk,qm,qn,zb,zc,zn,zp,zq,qo,zd,ze,zr,zt,zu,j3,x7,zw,zf,za,zx,qp,zy,zg,zz,z6,qq,zh,yf,qr,aop,yq,j4,j5,x8,x9,jd,j6,j7,wb,je,j8,yr,j9,wg,jf,jg,xa,xb,z7,jh,z8,ji,jj,yt,yu,xc,AV.one,wh,wi,aun,jk,xd,yw,afn,xe,Out.ren,xf,xg,jl,wj,xh,wl,jm,Eng.distinct,pos,wn,Eng.ren,wo,xi,wp,jo,wq,yg,xj,ws,wu,jp,frz,yx,yz,wv,List.lookup_cons,jq,zi,jr,js,List.range_succ,jt,xk,ju,xm,↓yh,↓yi,↓qt,↓y6,↓qu,↓qa,↓yj,↓yk,↓qv,↓qw,↓qx,↓qy,↓qb,↓qz,qc,ww,xn,jv,jw,yl,qd,qe,zj,wx,y7,jx,xp,xq,keq,y8,wy,qf,y9,ym,xr,jy,jz,xt,j0,wz,ja,j1,xu,xv,xw,jb,q5,q6,yn,q7,j2,Option.map_some,yo,qg,q8,q9,qh,ya,xx,yb,yp,yc,xy,w5,xz,x5,w6,jc,x6,Op.operands,Call.operands,yd,qi,w7,AObj.live]
theorem b_Text (C : Oracle) (v : V) (h : C 70 [avV v] [] = R (.int .i64 (mayTop v))) (h2 : C 71 [avV v] [] = R (.str (textV v))) :
    abody Tryz.prog [] C (mach Tryz.prog C {}) true 41 [avV v] [] = some (.ret (.tup [.d (.str (textOf v)), .d (.int .i64 (mayTop v))]), []) := by
  simp only [R, avV] at h h2
  unfold abody
  rw [Tryz.func41]
  simp only [Tryz.f41]
  by_cases e : mayTop v = 0
  · simp -implicitDefEqProofs [R, avV, textOf, h, h2, e, IntWalk.i64_in,IntWalk.u64_in,IntWalk.u8_in,IntWalk.i32_in,IntWalk.u32_in,ye,zk,zm,qj,qk,qm,qn,zb,zc,zn,zp,zq,qo,zd,ze,zr,zt,zu,j3,x7,zw,zf,za,zx,qp,zy,zg,zz,z6,qq,zh,yf,qr,aop,yq,j4,j5,x8,x9,jd,j6,j7,wb,je,j8,yr,j9,wg,jf,jg,xa,xb,z7,jh,z8,ji,jj,yt,yu,xc,AV.one,wh,wi,aun,jk,xd,yw,afn,xe,Out.ren,xf,xg,jl,wj,xh,wl,jm,Eng.distinct,pos,wn,Eng.ren,wo,xi,wp,jo,wq,yg,xj,ws,wu,jp,frz,yx,yz,wv,List.lookup_cons,jq,zi,jr,js,List.range_succ,jt,xk,ju,xm,↓yh,↓yi,↓qt,↓y6,↓qu,↓qa,↓yj,↓yk,↓qv,↓qw,↓qx,↓qy,↓qb,↓qz,qc,ww,xn,jv,jw,yl,qd,qe,zj,wx,y7,jx,xp,xq,keq,y8,wy,qf,y9,ym,xr,jy,jz,xt,j0,wz,ja,j1,xu,xv,xw,jb,q5,q6,yn,q7,j2,Option.map_some,yo,qg,q8,q9,qh,ya,xx,yb,yp,yc,xy,w5,xz,x5,w6,jc,x6,Op.operands,Call.operands,yd,qi,w7,AObj.live]
  · simp -implicitDefEqProofs [R, avV, textOf, h, h2, e, IntWalk.i64_in,IntWalk.u64_in,IntWalk.u8_in,IntWalk.i32_in,IntWalk.u32_in,ye,zk,zm,qj,qk,qm,qn,zb,zc,zn,zp,zq,qo,zd,ze,zr,zt,zu,j3,x7,zw,zf,za,zx,qp,zy,zg,zz,z6,qq,zh,yf,qr,aop,yq,j4,j5,x8,x9,jd,j6,j7,wb,je,j8,yr,j9,wg,jf,jg,xa,xb,z7,jh,z8,ji,jj,yt,yu,xc,AV.one,wh,wi,aun,jk,xd,yw,afn,xe,Out.ren,xf,xg,jl,wj,xh,wl,jm,Eng.distinct,pos,wn,Eng.ren,wo,xi,wp,jo,wq,yg,xj,ws,wu,jp,frz,yx,yz,wv,List.lookup_cons,jq,zi,jr,js,List.range_succ,jt,xk,ju,xm,↓yh,↓yi,↓qt,↓y6,↓qu,↓qa,↓yj,↓yk,↓qv,↓qw,↓qx,↓qy,↓qb,↓qz,qc,ww,xn,jv,jw,yl,qd,qe,zj,wx,y7,jx,xp,xq,keq,y8,wy,qf,y9,ym,xr,jy,jz,xt,j0,wz,ja,j1,xu,xv,xw,jb,q5,q6,yn,q7,j2,Option.map_some,yo,qg,q8,q9,qh,ya,xx,yb,yp,yc,xy,w5,xz,x5,w6,jc,x6,Op.operands,Call.operands,yd,qi,w7,AObj.live]
theorem b_Bytes (C : Oracle) (v : V) (h : C 41 [avV v] [] = some (.ret (.tup [.d (.str (textOf v)), .d (.int .i64 (mayTop v))]), [])) :
    abody Tryz.prog [] C (mach Tryz.prog C {}) true 143 [avV v] [] = some (.ret (.tup [.d (.int .i64 (textOf v).length), .d (.int .i64 (mayTop v))]), []) := by
  simp only [R, avV] at h
  unfold abody
  rw [Tryz.func143]
  simp only [Tryz.f143]
  simp -implicitDefEqProofs [R, avV, h, IntWalk.i64_in,IntWalk.u64_in,IntWalk.u8_in,IntWalk.i32_in,IntWalk.u32_in,ye,zk,zm,qj,qk,qm,qn,zb,zc,zn,zp,zq,qo,zd,ze,zr,zt,zu,j3,x7,zw,zf,za,zx,qp,zy,zg,zz,z6,qq,zh,yf,qr,aop,yq,j4,j5,x8,x9,jd,j6,j7,wb,je,j8,yr,j9,wg,jf,jg,xa,xb,z7,jh,z8,ji,jj,yt,yu,xc,AV.one,wh,wi,aun,jk,xd,yw,afn,xe,Out.ren,xf,xg,jl,wj,xh,wl,jm,Eng.distinct,pos,wn,Eng.ren,wo,xi,wp,jo,wq,yg,xj,ws,wu,jp,frz,yx,yz,wv,List.lookup_cons,jq,zi,jr,js,List.range_succ,jt,xk,ju,xm,↓yh,↓yi,↓qt,↓y6,↓qu,↓qa,↓yj,↓yk,↓qv,↓qw,↓qx,↓qy,↓qb,↓qz,qc,ww,xn,jv,jw,yl,qd,qe,zj,wx,y7,jx,xp,xq,keq,y8,wy,qf,y9,ym,xr,jy,jz,xt,j0,wz,ja,j1,xu,xv,xw,jb,q5,q6,yn,q7,j2,Option.map_some,yo,qg,q8,q9,qh,ya,xx,yb,yp,yc,xy,w5,xz,x5,w6,jc,x6,Op.operands,Call.operands,yd,qi,w7,AObj.live]
theorem b_Short (C : Oracle) (v : V) (n : Int) (h : C 143 [avV v] [] = some (.ret (.tup [.d (.int .i64 (textOf v).length), .d (.int .i64 (mayTop v))]), [])) :
    abody Tryz.prog [] C (mach Tryz.prog C {}) true 112 [avV v, .d (.int .i64 n)] [] = R (.int .i64 (shortV v n)) := by
  simp only [R, avV] at h
  unfold abody
  rw [Tryz.func112]
  simp only [Tryz.f112]
  by_cases e : mayTop v = 0
  · by_cases e2 : n < (textV v).length
    · simp -implicitDefEqProofs [R, avV, h, shortV, textOf, e, e2, IntWalk.i64_in,IntWalk.u64_in,IntWalk.u8_in,IntWalk.i32_in,IntWalk.u32_in,ye,zk,zm,qj,qk,qm,qn,zb,zc,zn,zp,zq,qo,zd,ze,zr,zt,zu,j3,x7,zw,zf,za,zx,qp,zy,zg,zz,z6,qq,zh,yf,qr,aop,yq,j4,j5,x8,x9,jd,j6,j7,wb,je,j8,yr,j9,wg,jf,jg,xa,xb,z7,jh,z8,ji,jj,yt,yu,xc,AV.one,wh,wi,aun,jk,xd,yw,afn,xe,Out.ren,xf,xg,jl,wj,xh,wl,jm,Eng.distinct,pos,wn,Eng.ren,wo,xi,wp,jo,wq,yg,xj,ws,wu,jp,frz,yx,yz,wv,List.lookup_cons,jq,zi,jr,js,List.range_succ,jt,xk,ju,xm,↓yh,↓yi,↓qt,↓y6,↓qu,↓qa,↓yj,↓yk,↓qv,↓qw,↓qx,↓qy,↓qb,↓qz,qc,ww,xn,jv,jw,yl,qd,qe,zj,wx,y7,jx,xp,xq,keq,y8,wy,qf,y9,ym,xr,jy,jz,xt,j0,wz,ja,j1,xu,xv,xw,jb,q5,q6,yn,q7,j2,Option.map_some,yo,qg,q8,q9,qh,ya,xx,yb,yp,yc,xy,w5,xz,x5,w6,jc,x6,Op.operands,Call.operands,yd,qi,w7,AObj.live]
    · simp -implicitDefEqProofs [R, avV, h, shortV, textOf, e, e2, IntWalk.i64_in,IntWalk.u64_in,IntWalk.u8_in,IntWalk.i32_in,IntWalk.u32_in,ye,zk,zm,qj,qk,qm,qn,zb,zc,zn,zp,zq,qo,zd,ze,zr,zt,zu,j3,x7,zw,zf,za,zx,qp,zy,zg,zz,z6,qq,zh,yf,qr,aop,yq,j4,j5,x8,x9,jd,j6,j7,wb,je,j8,yr,j9,wg,jf,jg,xa,xb,z7,jh,z8,ji,jj,yt,yu,xc,AV.one,wh,wi,aun,jk,xd,yw,afn,xe,Out.ren,xf,xg,jl,wj,xh,wl,jm,Eng.distinct,pos,wn,Eng.ren,wo,xi,wp,jo,wq,yg,xj,ws,wu,jp,frz,yx,yz,wv,List.lookup_cons,jq,zi,jr,js,List.range_succ,jt,xk,ju,xm,↓yh,↓yi,↓qt,↓y6,↓qu,↓qa,↓yj,↓yk,↓qv,↓qw,↓qx,↓qy,↓qb,↓qz,qc,ww,xn,jv,jw,yl,qd,qe,zj,wx,y7,jx,xp,xq,keq,y8,wy,qf,y9,ym,xr,jy,jz,xt,j0,wz,ja,j1,xu,xv,xw,jb,q5,q6,yn,q7,j2,Option.map_some,yo,qg,q8,q9,qh,ya,xx,yb,yp,yc,xy,w5,xz,x5,w6,jc,x6,Op.operands,Call.operands,yd,qi,w7,AObj.live]
  · simp -implicitDefEqProofs [R, avV, h, shortV, textOf, e, IntWalk.i64_in,IntWalk.u64_in,IntWalk.u8_in,IntWalk.i32_in,IntWalk.u32_in,ye,zk,zm,qj,qk,qm,qn,zb,zc,zn,zp,zq,qo,zd,ze,zr,zt,zu,j3,x7,zw,zf,za,zx,qp,zy,zg,zz,z6,qq,zh,yf,qr,aop,yq,j4,j5,x8,x9,jd,j6,j7,wb,je,j8,yr,j9,wg,jf,jg,xa,xb,z7,jh,z8,ji,jj,yt,yu,xc,AV.one,wh,wi,aun,jk,xd,yw,afn,xe,Out.ren,xf,xg,jl,wj,xh,wl,jm,Eng.distinct,pos,wn,Eng.ren,wo,xi,wp,jo,wq,yg,xj,ws,wu,jp,frz,yx,yz,wv,List.lookup_cons,jq,zi,jr,js,List.range_succ,jt,xk,ju,xm,↓yh,↓yi,↓qt,↓y6,↓qu,↓qa,↓yj,↓yk,↓qv,↓qw,↓qx,↓qy,↓qb,↓qz,qc,ww,xn,jv,jw,yl,qd,qe,zj,wx,y7,jx,xp,xq,keq,y8,wy,qf,y9,ym,xr,jy,jz,xt,j0,wz,ja,j1,xu,xv,xw,jb,q5,q6,yn,q7,j2,Option.map_some,yo,qg,q8,q9,qh,ya,xx,yb,yp,yc,xy,w5,xz,x5,w6,jc,x6,Op.operands,Call.operands,yd,qi,w7,AObj.live]
theorem b_Fits (C : Oracle) (v : V) (h : C 112 [avV v, .d (.int .i64 1024)] [] = R (.int .i64 (shortV v 1024))) (h2 : C 113 [avV v] [] = R (.int .i64 (deepV v))) :
    abody Tryz.prog [] C (mach Tryz.prog C {}) true 80 [avV v] [] = R (.int .i64 (fitsV v)) := by
  simp only [R, avV] at h h2
  unfold abody
  rw [Tryz.func80]
  simp only [Tryz.f80]
  by_cases e : shortV v 1024 = 0
  · by_cases e2 : 16 < deepV v
    · simp -implicitDefEqProofs [R, avV, h, h2, fitsV, e, e2, IntWalk.i64_in,IntWalk.u64_in,IntWalk.u8_in,IntWalk.i32_in,IntWalk.u32_in,ye,zk,zm,qj,qk,qm,qn,zb,zc,zn,zp,zq,qo,zd,ze,zr,zt,zu,j3,x7,zw,zf,za,zx,qp,zy,zg,zz,z6,qq,zh,yf,qr,aop,yq,j4,j5,x8,x9,jd,j6,j7,wb,je,j8,yr,j9,wg,jf,jg,xa,xb,z7,jh,z8,ji,jj,yt,yu,xc,AV.one,wh,wi,aun,jk,xd,yw,afn,xe,Out.ren,xf,xg,jl,wj,xh,wl,jm,Eng.distinct,pos,wn,Eng.ren,wo,xi,wp,jo,wq,yg,xj,ws,wu,jp,frz,yx,yz,wv,List.lookup_cons,jq,zi,jr,js,List.range_succ,jt,xk,ju,xm,↓yh,↓yi,↓qt,↓y6,↓qu,↓qa,↓yj,↓yk,↓qv,↓qw,↓qx,↓qy,↓qb,↓qz,qc,ww,xn,jv,jw,yl,qd,qe,zj,wx,y7,jx,xp,xq,keq,y8,wy,qf,y9,ym,xr,jy,jz,xt,j0,wz,ja,j1,xu,xv,xw,jb,q5,q6,yn,q7,j2,Option.map_some,yo,qg,q8,q9,qh,ya,xx,yb,yp,yc,xy,w5,xz,x5,w6,jc,x6,Op.operands,Call.operands,yd,qi,w7,AObj.live]
    · simp -implicitDefEqProofs [R, avV, h, h2, fitsV, e, e2, IntWalk.i64_in,IntWalk.u64_in,IntWalk.u8_in,IntWalk.i32_in,IntWalk.u32_in,ye,zk,zm,qj,qk,qm,qn,zb,zc,zn,zp,zq,qo,zd,ze,zr,zt,zu,j3,x7,zw,zf,za,zx,qp,zy,zg,zz,z6,qq,zh,yf,qr,aop,yq,j4,j5,x8,x9,jd,j6,j7,wb,je,j8,yr,j9,wg,jf,jg,xa,xb,z7,jh,z8,ji,jj,yt,yu,xc,AV.one,wh,wi,aun,jk,xd,yw,afn,xe,Out.ren,xf,xg,jl,wj,xh,wl,jm,Eng.distinct,pos,wn,Eng.ren,wo,xi,wp,jo,wq,yg,xj,ws,wu,jp,frz,yx,yz,wv,List.lookup_cons,jq,zi,jr,js,List.range_succ,jt,xk,ju,xm,↓yh,↓yi,↓qt,↓y6,↓qu,↓qa,↓yj,↓yk,↓qv,↓qw,↓qx,↓qy,↓qb,↓qz,qc,ww,xn,jv,jw,yl,qd,qe,zj,wx,y7,jx,xp,xq,keq,y8,wy,qf,y9,ym,xr,jy,jz,xt,j0,wz,ja,j1,xu,xv,xw,jb,q5,q6,yn,q7,j2,Option.map_some,yo,qg,q8,q9,qh,ya,xx,yb,yp,yc,xy,w5,xz,x5,w6,jc,x6,Op.operands,Call.operands,yd,qi,w7,AObj.live]
  · by_cases e1 : shortV v 1024 = 6
    · by_cases e2 : 16 < deepV v
      · simp -implicitDefEqProofs [R, avV, h, h2, fitsV, e1, e2, IntWalk.i64_in,IntWalk.u64_in,IntWalk.u8_in,IntWalk.i32_in,IntWalk.u32_in,ye,zk,zm,qj,qk,qm,qn,zb,zc,zn,zp,zq,qo,zd,ze,zr,zt,zu,j3,x7,zw,zf,za,zx,qp,zy,zg,zz,z6,qq,zh,yf,qr,aop,yq,j4,j5,x8,x9,jd,j6,j7,wb,je,j8,yr,j9,wg,jf,jg,xa,xb,z7,jh,z8,ji,jj,yt,yu,xc,AV.one,wh,wi,aun,jk,xd,yw,afn,xe,Out.ren,xf,xg,jl,wj,xh,wl,jm,Eng.distinct,pos,wn,Eng.ren,wo,xi,wp,jo,wq,yg,xj,ws,wu,jp,frz,yx,yz,wv,List.lookup_cons,jq,zi,jr,js,List.range_succ,jt,xk,ju,xm,↓yh,↓yi,↓qt,↓y6,↓qu,↓qa,↓yj,↓yk,↓qv,↓qw,↓qx,↓qy,↓qb,↓qz,qc,ww,xn,jv,jw,yl,qd,qe,zj,wx,y7,jx,xp,xq,keq,y8,wy,qf,y9,ym,xr,jy,jz,xt,j0,wz,ja,j1,xu,xv,xw,jb,q5,q6,yn,q7,j2,Option.map_some,yo,qg,q8,q9,qh,ya,xx,yb,yp,yc,xy,w5,xz,x5,w6,jc,x6,Op.operands,Call.operands,yd,qi,w7,AObj.live]
      · simp -implicitDefEqProofs [R, avV, h, h2, fitsV, e1, e2, IntWalk.i64_in,IntWalk.u64_in,IntWalk.u8_in,IntWalk.i32_in,IntWalk.u32_in,ye,zk,zm,qj,qk,qm,qn,zb,zc,zn,zp,zq,qo,zd,ze,zr,zt,zu,j3,x7,zw,zf,za,zx,qp,zy,zg,zz,z6,qq,zh,yf,qr,aop,yq,j4,j5,x8,x9,jd,j6,j7,wb,je,j8,yr,j9,wg,jf,jg,xa,xb,z7,jh,z8,ji,jj,yt,yu,xc,AV.one,wh,wi,aun,jk,xd,yw,afn,xe,Out.ren,xf,xg,jl,wj,xh,wl,jm,Eng.distinct,pos,wn,Eng.ren,wo,xi,wp,jo,wq,yg,xj,ws,wu,jp,frz,yx,yz,wv,List.lookup_cons,jq,zi,jr,js,List.range_succ,jt,xk,ju,xm,↓yh,↓yi,↓qt,↓y6,↓qu,↓qa,↓yj,↓yk,↓qv,↓qw,↓qx,↓qy,↓qb,↓qz,qc,ww,xn,jv,jw,yl,qd,qe,zj,wx,y7,jx,xp,xq,keq,y8,wy,qf,y9,ym,xr,jy,jz,xt,j0,wz,ja,j1,xu,xv,xw,jb,q5,q6,yn,q7,j2,Option.map_some,yo,qg,q8,q9,qh,ya,xx,yb,yp,yc,xy,w5,xz,x5,w6,jc,x6,Op.operands,Call.operands,yd,qi,w7,AObj.live]
    · have e1' : (shortV v 1024 == 6) = false := by simpa using e1
      have e' : (shortV v 1024 == 0) = false := by simpa using e
      simp -implicitDefEqProofs [R, avV, h, h2, fitsV, e, e1, e', e1', IntWalk.i64_in,IntWalk.u64_in,IntWalk.u8_in,IntWalk.i32_in,IntWalk.u32_in,ye,zk,zm,qj,qk,qm,qn,zb,zc,zn,zp,zq,qo,zd,ze,zr,zt,zu,j3,x7,zw,zf,za,zx,qp,zy,zg,zz,z6,qq,zh,yf,qr,aop,yq,j4,j5,x8,x9,jd,j6,j7,wb,je,j8,yr,j9,wg,jf,jg,xa,xb,z7,jh,z8,ji,jj,yt,yu,xc,AV.one,wh,wi,aun,jk,xd,yw,afn,xe,Out.ren,xf,xg,jl,wj,xh,wl,jm,Eng.distinct,pos,wn,Eng.ren,wo,xi,wp,jo,wq,yg,xj,ws,wu,jp,frz,yx,yz,wv,List.lookup_cons,jq,zi,jr,js,List.range_succ,jt,xk,ju,xm,↓yh,↓yi,↓qt,↓y6,↓qu,↓qa,↓yj,↓yk,↓qv,↓qw,↓qx,↓qy,↓qb,↓qz,qc,ww,xn,jv,jw,yl,qd,qe,zj,wx,y7,jx,xp,xq,keq,y8,wy,qf,y9,ym,xr,jy,jz,xt,j0,wz,ja,j1,xu,xv,xw,jb,q5,q6,yn,q7,j2,Option.map_some,yo,qg,q8,q9,qh,ya,xx,yb,yp,yc,xy,w5,xz,x5,w6,jc,x6,Op.operands,Call.operands,yd,qi,w7,AObj.live]
end Go.Proofs.YtblejchodicaoaaGreatDoor.Eng

/-
  CONTRACTS: encode.put on a builder not used yet. Own work.
-/
namespace Go.Proofs.YtblejchodicaoaaGreatDoor.Eng
open Go Go.RowKit
set_option maxRecDepth 100000
set_option linter.unusedSimpArgs false
set_option maxHeartbeats 2000000

def prow (ps : List (List UInt8)) : AObj := .drow (ps.map fun s => [.str s]) 9 1
def brow (l : List UInt8) : AObj := .drow (l.map fun b => [.int .u8 b.toNat]) 5 1
/-- A builder, and the texts that are put. -/
def bld2 (u : Bool) (l : List UInt8) (ps : List (List UInt8)) : List AObj :=
  if l = [] then [.box [if u then .ptr 0 0 else .d .nilp, .d .nils] 139, prow ps] else [.box [.ptr 0 0, .sl 2 1 0 l.length] 139, prow ps, brow l]

def put2 (ps : List (List UInt8)) : List AObj := bld2 (decide (ps ≠ [])) ps.flatten ps

theorem b_put (C : Oracle) (ps : List (List UInt8)) (hp : ps.length ≤ 1099511627776) (hs : ps.flatten.length ≤ 140737488355328)
    (h : ∀ u (l s : List UInt8), l.length + s.length ≤ 140737488355328 → C 128 [.ptr 0 0, .d (.str s)] (bld u l) = some (.ret (.tup [.d (.int .i64 s.length), .d .nili]), wr l s)) :
    abody Tryz.prog [] C (mach Tryz.prog C { keep := [(6, [0, 6, 7, 8])], outs := [(6, [])] }) false 100 [.ptr 0 0, .sl 1 1 0 ps.length] (bld2 false [] ps) = some (.ret (.tup []), put2 ps) := by
  unfold abody
  rw [Tryz.func100]
  simp only [Tryz.f100]
  simp -implicitDefEqProofs [bld2, prow, mach_loop, IntWalk.i64_in,IntWalk.u64_in,IntWalk.u8_in,IntWalk.i32_in,IntWalk.u32_in,ye,zk,zm,qj,qk,qm,qn,zb,zc,zn,zp,zq,qo,zd,ze,zr,zt,zu,j3,x7,zw,zf,za,zx,qp,zy,zg,zz,z6,qq,zh,yf,qr,aop,yq,j4,j5,x8,x9,jd,j6,j7,wb,je,j8,yr,j9,wg,jf,jg,xa,xb,z7,jh,z8,ji,jj,yt,yu,xc,AV.one,wh,wi,aun,jk,xd,yw,afn,xe,Out.ren,xf,xg,jl,wj,xh,wl,jm,Eng.distinct,pos,wn,Eng.ren,wo,xi,wp,jo,wq,yg,xj,ws,wu,jp,frz,yx,yz,wv,List.lookup_cons,jq,zi,jr,js,List.range_succ,jt,xk,ju,xm,↓yh,↓yi,↓qt,↓y6,↓qu,↓qa,↓yj,↓yk,↓qv,↓qw,↓qx,↓qy,↓qb,↓qz,qc,ww,xn,jv,jw,yl,qd,qe,zj,wx,y7,jx,xp,xq,keq,y8,wy,qf,y9,ym,xr,jy,jz,xt,j0,wz,ja,j1,xu,xv,xw,jb,q5,q6,yn,q7,j2,Option.map_some,yo,qg,q8,q9,qh,ya,xx,yb,yp,yc,xy,w5,xz,x5,w6,jc,x6,Op.operands,Call.operands,yd,qi,w7,AObj.live]
  rw [aloop_list (l := ps)
    (S := fun pre suf => { env := [(0, .ptr 0 0), (6, .sl 1 1 0 (pre ++ suf).length), (7, .d (.int .i64 ((pre ++ suf).length : Nat))), (8, .d (.int .i64 (pre.length : Nat)))], σ := bld2 (decide (pre ≠ [])) pre.flatten (pre ++ suf), dfs := [] })
    (R := fun pre suf => some (.exit 0, { env := [], σ := put2 (pre ++ suf), dfs := [] }))
    (hs := ?_) (h0 := ?_) (h1 := ?_)]
  rotate_left
  · simp -implicitDefEqProofs [bld2, prow, IntWalk.i64_in,IntWalk.u64_in,IntWalk.u8_in,IntWalk.i32_in,IntWalk.u32_in,ye,zk,zm,qj,qk,qm,qn,zb,zc,zn,zp,zq,qo,zd,ze,zr,zt,zu,j3,x7,zw,zf,za,zx,qp,zy,zg,zz,z6,qq,zh,yf,qr,aop,yq,j4,j5,x8,x9,jd,j6,j7,wb,je,j8,yr,j9,wg,jf,jg,xa,xb,z7,jh,z8,ji,jj,yt,yu,xc,AV.one,wh,wi,aun,jk,xd,yw,afn,xe,Out.ren,xf,xg,jl,wj,xh,wl,jm,Eng.distinct,pos,wn,Eng.ren,wo,xi,wp,jo,wq,yg,xj,ws,wu,jp,frz,yx,yz,wv,List.lookup_cons,jq,zi,jr,js,List.range_succ,jt,xk,ju,xm,↓yh,↓yi,↓qt,↓y6,↓qu,↓qa,↓yj,↓yk,↓qv,↓qw,↓qx,↓qy,↓qb,↓qz,qc,ww,xn,jv,jw,yl,qd,qe,zj,wx,y7,jx,xp,xq,keq,y8,wy,qf,y9,ym,xr,jy,jz,xt,j0,wz,ja,j1,xu,xv,xw,jb,q5,q6,yn,q7,j2,Option.map_some,yo,qg,q8,q9,qh,ya,xx,yb,yp,yc,xy,w5,xz,x5,w6,jc,x6,Op.operands,Call.operands,yd,qi,w7,AObj.live]
  · intro pre hpr
    by_cases hf : pre.flatten = []
    · by_cases he : pre = []
      · simp -implicitDefEqProofs [put2, bld2, prow, brow, he, mach_loop, IntWalk.i64_in,IntWalk.u64_in,IntWalk.u8_in,IntWalk.i32_in,IntWalk.u32_in,ye,zk,zm,qj,qk,qm,qn,zb,zc,zn,zp,zq,qo,zd,ze,zr,zt,zu,j3,x7,zw,zf,za,zx,qp,zy,zg,zz,z6,qq,zh,yf,qr,aop,yq,j4,j5,x8,x9,jd,j6,j7,wb,je,j8,yr,j9,wg,jf,jg,xa,xb,z7,jh,z8,ji,jj,yt,yu,xc,AV.one,wh,wi,aun,jk,xd,yw,afn,xe,Out.ren,xf,xg,jl,wj,xh,wl,jm,Eng.distinct,pos,wn,Eng.ren,wo,xi,wp,jo,wq,yg,xj,ws,wu,jp,frz,yx,yz,wv,List.lookup_cons,jq,zi,jr,js,List.range_succ,jt,xk,ju,xm,↓yh,↓yi,↓qt,↓y6,↓qu,↓qa,↓yj,↓yk,↓qv,↓qw,↓qx,↓qy,↓qb,↓qz,qc,ww,xn,jv,jw,yl,qd,qe,zj,wx,y7,jx,xp,xq,keq,y8,wy,qf,y9,ym,xr,jy,jz,xt,j0,wz,ja,j1,xu,xv,xw,jb,q5,q6,yn,q7,j2,Option.map_some,yo,qg,q8,q9,qh,ya,xx,yb,yp,yc,xy,w5,xz,x5,w6,jc,x6,Op.operands,Call.operands,yd,qi,w7,AObj.live]
      · simp -implicitDefEqProofs [put2, bld2, prow, brow, hf, he, mach_loop, IntWalk.i64_in,IntWalk.u64_in,IntWalk.u8_in,IntWalk.i32_in,IntWalk.u32_in,ye,zk,zm,qj,qk,qm,qn,zb,zc,zn,zp,zq,qo,zd,ze,zr,zt,zu,j3,x7,zw,zf,za,zx,qp,zy,zg,zz,z6,qq,zh,yf,qr,aop,yq,j4,j5,x8,x9,jd,j6,j7,wb,je,j8,yr,j9,wg,jf,jg,xa,xb,z7,jh,z8,ji,jj,yt,yu,xc,AV.one,wh,wi,aun,jk,xd,yw,afn,xe,Out.ren,xf,xg,jl,wj,xh,wl,jm,Eng.distinct,pos,wn,Eng.ren,wo,xi,wp,jo,wq,yg,xj,ws,wu,jp,frz,yx,yz,wv,List.lookup_cons,jq,zi,jr,js,List.range_succ,jt,xk,ju,xm,↓yh,↓yi,↓qt,↓y6,↓qu,↓qa,↓yj,↓yk,↓qv,↓qw,↓qx,↓qy,↓qb,↓qz,qc,ww,xn,jv,jw,yl,qd,qe,zj,wx,y7,jx,xp,xq,keq,y8,wy,qf,y9,ym,xr,jy,jz,xt,j0,wz,ja,j1,xu,xv,xw,jb,q5,q6,yn,q7,j2,Option.map_some,yo,qg,q8,q9,qh,ya,xx,yb,yp,yc,xy,w5,xz,x5,w6,jc,x6,Op.operands,Call.operands,yd,qi,w7,AObj.live]
    · have he : pre ≠ [] := fun h => hf (by rw [h]; rfl)
      simp -implicitDefEqProofs [put2, bld2, prow, brow, hf, he, mach_loop, IntWalk.i64_in,IntWalk.u64_in,IntWalk.u8_in,IntWalk.i32_in,IntWalk.u32_in,ye,zk,zm,qj,qk,qm,qn,zb,zc,zn,zp,zq,qo,zd,ze,zr,zt,zu,j3,x7,zw,zf,za,zx,qp,zy,zg,zz,z6,qq,zh,yf,qr,aop,yq,j4,j5,x8,x9,jd,j6,j7,wb,je,j8,yr,j9,wg,jf,jg,xa,xb,z7,jh,z8,ji,jj,yt,yu,xc,AV.one,wh,wi,aun,jk,xd,yw,afn,xe,Out.ren,xf,xg,jl,wj,xh,wl,jm,Eng.distinct,pos,wn,Eng.ren,wo,xi,wp,jo,wq,yg,xj,ws,wu,jp,frz,yx,yz,wv,List.lookup_cons,jq,zi,jr,js,List.range_succ,jt,xk,ju,xm,↓yh,↓yi,↓qt,↓y6,↓qu,↓qa,↓yj,↓yk,↓qv,↓qw,↓qx,↓qy,↓qb,↓qz,qc,ww,xn,jv,jw,yl,qd,qe,zj,wx,y7,jx,xp,xq,keq,y8,wy,qf,y9,ym,xr,jy,jz,xt,j0,wz,ja,j1,xu,xv,xw,jb,q5,q6,yn,q7,j2,Option.map_some,yo,qg,q8,q9,qh,ya,xx,yb,yp,yc,xy,w5,xz,x5,w6,jc,x6,Op.operands,Call.operands,yd,qi,w7,AObj.live]
  · intro pre x suf hpr ih
    have hll : pre.length < ps.length := by rw [← hpr]; simp
    have hw2 : IntKind.i64.wrap ((pre.length : Nat) + 1) = (pre.length : Nat) + 1 := wrap64 (by omega) (by omega)
    have hfl : pre.flatten.length + x.length ≤ 140737488355328 := by rw [← hpr] at hs; simp only [List.flatten_append, List.flatten_cons, List.length_append] at hs; omega
    have hc := h (decide (pre ≠ [])) pre.flatten x hfl
    by_cases hf : pre.flatten = []
    · by_cases he : pre = []
      · subst he
        by_cases hx : x = []
        · subst hx
          simp [bld, wr] at hc
          simp -implicitDefEqProofs [bld2, prow, brow, hc, hw2, mid_lt, pos1, mach_loop, IntWalk.i64_in,IntWalk.u64_in,IntWalk.u8_in,IntWalk.i32_in,IntWalk.u32_in,ye,zk,zm,qj,qk,qm,qn,zb,zc,zn,zp,zq,qo,zd,ze,zr,zt,zu,j3,x7,zw,zf,za,zx,qp,zy,zg,zz,z6,qq,zh,yf,qr,aop,yq,j4,j5,x8,x9,jd,j6,j7,wb,je,j8,yr,j9,wg,jf,jg,xa,xb,z7,jh,z8,ji,jj,yt,yu,xc,AV.one,wh,wi,aun,jk,xd,yw,afn,xe,Out.ren,xf,xg,jl,wj,xh,wl,jm,Eng.distinct,pos,wn,Eng.ren,wo,xi,wp,jo,wq,yg,xj,ws,wu,jp,frz,yx,yz,wv,List.lookup_cons,jq,zi,jr,js,List.range_succ,jt,xk,ju,xm,↓yh,↓yi,↓qt,↓y6,↓qu,↓qa,↓yj,↓yk,↓qv,↓qw,↓qx,↓qy,↓qb,↓qz,qc,ww,xn,jv,jw,yl,qd,qe,zj,wx,y7,jx,xp,xq,keq,y8,wy,qf,y9,ym,xr,jy,jz,xt,j0,wz,ja,j1,xu,xv,xw,jb,q5,q6,yn,q7,j2,Option.map_some,yo,qg,q8,q9,qh,ya,xx,yb,yp,yc,xy,w5,xz,x5,w6,jc,x6,Op.operands,Call.operands,yd,qi,w7,AObj.live]
          rw [ih _ (by simp -implicitDefEqProofs [bld2, prow, IntWalk.i64_in,IntWalk.u64_in,IntWalk.u8_in,IntWalk.i32_in,IntWalk.u32_in,ye,zk,zm,qj,qk,qm,qn,zb,zc,zn,zp,zq,qo,zd,ze,zr,zt,zu,j3,x7,zw,zf,za,zx,qp,zy,zg,zz,z6,qq,zh,yf,qr,aop,yq,j4,j5,x8,x9,jd,j6,j7,wb,je,j8,yr,j9,wg,jf,jg,xa,xb,z7,jh,z8,ji,jj,yt,yu,xc,AV.one,wh,wi,aun,jk,xd,yw,afn,xe,Out.ren,xf,xg,jl,wj,xh,wl,jm,Eng.distinct,pos,wn,Eng.ren,wo,xi,wp,jo,wq,yg,xj,ws,wu,jp,frz,yx,yz,wv,List.lookup_cons,jq,zi,jr,js,List.range_succ,jt,xk,ju,xm,↓yh,↓yi,↓qt,↓y6,↓qu,↓qa,↓yj,↓yk,↓qv,↓qw,↓qx,↓qy,↓qb,↓qz,qc,ww,xn,jv,jw,yl,qd,qe,zj,wx,y7,jx,xp,xq,keq,y8,wy,qf,y9,ym,xr,jy,jz,xt,j0,wz,ja,j1,xu,xv,xw,jb,q5,q6,yn,q7,j2,Option.map_some,yo,qg,q8,q9,qh,ya,xx,yb,yp,yc,xy,w5,xz,x5,w6,jc,x6,Op.operands,Call.operands,yd,qi,w7,AObj.live])]
          simp
        · simp [bld, wr, hx] at hc
          simp -implicitDefEqProofs [bld2, prow, brow, hc, hw2, mid_lt, pos1, mach_loop, IntWalk.i64_in,IntWalk.u64_in,IntWalk.u8_in,IntWalk.i32_in,IntWalk.u32_in,ye,zk,zm,qj,qk,qm,qn,zb,zc,zn,zp,zq,qo,zd,ze,zr,zt,zu,j3,x7,zw,zf,za,zx,qp,zy,zg,zz,z6,qq,zh,yf,qr,aop,yq,j4,j5,x8,x9,jd,j6,j7,wb,je,j8,yr,j9,wg,jf,jg,xa,xb,z7,jh,z8,ji,jj,yt,yu,xc,AV.one,wh,wi,aun,jk,xd,yw,afn,xe,Out.ren,xf,xg,jl,wj,xh,wl,jm,Eng.distinct,pos,wn,Eng.ren,wo,xi,wp,jo,wq,yg,xj,ws,wu,jp,frz,yx,yz,wv,List.lookup_cons,jq,zi,jr,js,List.range_succ,jt,xk,ju,xm,↓yh,↓yi,↓qt,↓y6,↓qu,↓qa,↓yj,↓yk,↓qv,↓qw,↓qx,↓qy,↓qb,↓qz,qc,ww,xn,jv,jw,yl,qd,qe,zj,wx,y7,jx,xp,xq,keq,y8,wy,qf,y9,ym,xr,jy,jz,xt,j0,wz,ja,j1,xu,xv,xw,jb,q5,q6,yn,q7,j2,Option.map_some,yo,qg,q8,q9,qh,ya,xx,yb,yp,yc,xy,w5,xz,x5,w6,jc,x6,Op.operands,Call.operands,yd,qi,w7,AObj.live]
          rw [ih _ (by simp -implicitDefEqProofs [bld2, prow, brow, hx, IntWalk.i64_in,IntWalk.u64_in,IntWalk.u8_in,IntWalk.i32_in,IntWalk.u32_in,ye,zk,zm,qj,qk,qm,qn,zb,zc,zn,zp,zq,qo,zd,ze,zr,zt,zu,j3,x7,zw,zf,za,zx,qp,zy,zg,zz,z6,qq,zh,yf,qr,aop,yq,j4,j5,x8,x9,jd,j6,j7,wb,je,j8,yr,j9,wg,jf,jg,xa,xb,z7,jh,z8,ji,jj,yt,yu,xc,AV.one,wh,wi,aun,jk,xd,yw,afn,xe,Out.ren,xf,xg,jl,wj,xh,wl,jm,Eng.distinct,pos,wn,Eng.ren,wo,xi,wp,jo,wq,yg,xj,ws,wu,jp,frz,yx,yz,wv,List.lookup_cons,jq,zi,jr,js,List.range_succ,jt,xk,ju,xm,↓yh,↓yi,↓qt,↓y6,↓qu,↓qa,↓yj,↓yk,↓qv,↓qw,↓qx,↓qy,↓qb,↓qz,qc,ww,xn,jv,jw,yl,qd,qe,zj,wx,y7,jx,xp,xq,keq,y8,wy,qf,y9,ym,xr,jy,jz,xt,j0,wz,ja,j1,xu,xv,xw,jb,q5,q6,yn,q7,j2,Option.map_some,yo,qg,q8,q9,qh,ya,xx,yb,yp,yc,xy,w5,xz,x5,w6,jc,x6,Op.operands,Call.operands,yd,qi,w7,AObj.live])]
          simp
      · by_cases hx : x = []
        · subst hx
          simp [bld, wr, hf, he] at hc
          simp -implicitDefEqProofs [bld2, prow, brow, hf, he, hc, hw2, mid_lt, pos1, mach_loop, IntWalk.i64_in,IntWalk.u64_in,IntWalk.u8_in,IntWalk.i32_in,IntWalk.u32_in,ye,zk,zm,qj,qk,qm,qn,zb,zc,zn,zp,zq,qo,zd,ze,zr,zt,zu,j3,x7,zw,zf,za,zx,qp,zy,zg,zz,z6,qq,zh,yf,qr,aop,yq,j4,j5,x8,x9,jd,j6,j7,wb,je,j8,yr,j9,wg,jf,jg,xa,xb,z7,jh,z8,ji,jj,yt,yu,xc,AV.one,wh,wi,aun,jk,xd,yw,afn,xe,Out.ren,xf,xg,jl,wj,xh,wl,jm,Eng.distinct,pos,wn,Eng.ren,wo,xi,wp,jo,wq,yg,xj,ws,wu,jp,frz,yx,yz,wv,List.lookup_cons,jq,zi,jr,js,List.range_succ,jt,xk,ju,xm,↓yh,↓yi,↓qt,↓y6,↓qu,↓qa,↓yj,↓yk,↓qv,↓qw,↓qx,↓qy,↓qb,↓qz,qc,ww,xn,jv,jw,yl,qd,qe,zj,wx,y7,jx,xp,xq,keq,y8,wy,qf,y9,ym,xr,jy,jz,xt,j0,wz,ja,j1,xu,xv,xw,jb,q5,q6,yn,q7,j2,Option.map_some,yo,qg,q8,q9,qh,ya,xx,yb,yp,yc,xy,w5,xz,x5,w6,jc,x6,Op.operands,Call.operands,yd,qi,w7,AObj.live]
          rw [ih _ (by simp -implicitDefEqProofs [bld2, prow, hf, he, IntWalk.i64_in,IntWalk.u64_in,IntWalk.u8_in,IntWalk.i32_in,IntWalk.u32_in,ye,zk,zm,qj,qk,qm,qn,zb,zc,zn,zp,zq,qo,zd,ze,zr,zt,zu,j3,x7,zw,zf,za,zx,qp,zy,zg,zz,z6,qq,zh,yf,qr,aop,yq,j4,j5,x8,x9,jd,j6,j7,wb,je,j8,yr,j9,wg,jf,jg,xa,xb,z7,jh,z8,ji,jj,yt,yu,xc,AV.one,wh,wi,aun,jk,xd,yw,afn,xe,Out.ren,xf,xg,jl,wj,xh,wl,jm,Eng.distinct,pos,wn,Eng.ren,wo,xi,wp,jo,wq,yg,xj,ws,wu,jp,frz,yx,yz,wv,List.lookup_cons,jq,zi,jr,js,List.range_succ,jt,xk,ju,xm,↓yh,↓yi,↓qt,↓y6,↓qu,↓qa,↓yj,↓yk,↓qv,↓qw,↓qx,↓qy,↓qb,↓qz,qc,ww,xn,jv,jw,yl,qd,qe,zj,wx,y7,jx,xp,xq,keq,y8,wy,qf,y9,ym,xr,jy,jz,xt,j0,wz,ja,j1,xu,xv,xw,jb,q5,q6,yn,q7,j2,Option.map_some,yo,qg,q8,q9,qh,ya,xx,yb,yp,yc,xy,w5,xz,x5,w6,jc,x6,Op.operands,Call.operands,yd,qi,w7,AObj.live])]
          simp
        · simp [bld, wr, hx, hf, he] at hc
          simp -implicitDefEqProofs [bld2, prow, brow, hf, he, hc, hw2, mid_lt, pos1, mach_loop, IntWalk.i64_in,IntWalk.u64_in,IntWalk.u8_in,IntWalk.i32_in,IntWalk.u32_in,ye,zk,zm,qj,qk,qm,qn,zb,zc,zn,zp,zq,qo,zd,ze,zr,zt,zu,j3,x7,zw,zf,za,zx,qp,zy,zg,zz,z6,qq,zh,yf,qr,aop,yq,j4,j5,x8,x9,jd,j6,j7,wb,je,j8,yr,j9,wg,jf,jg,xa,xb,z7,jh,z8,ji,jj,yt,yu,xc,AV.one,wh,wi,aun,jk,xd,yw,afn,xe,Out.ren,xf,xg,jl,wj,xh,wl,jm,Eng.distinct,pos,wn,Eng.ren,wo,xi,wp,jo,wq,yg,xj,ws,wu,jp,frz,yx,yz,wv,List.lookup_cons,jq,zi,jr,js,List.range_succ,jt,xk,ju,xm,↓yh,↓yi,↓qt,↓y6,↓qu,↓qa,↓yj,↓yk,↓qv,↓qw,↓qx,↓qy,↓qb,↓qz,qc,ww,xn,jv,jw,yl,qd,qe,zj,wx,y7,jx,xp,xq,keq,y8,wy,qf,y9,ym,xr,jy,jz,xt,j0,wz,ja,j1,xu,xv,xw,jb,q5,q6,yn,q7,j2,Option.map_some,yo,qg,q8,q9,qh,ya,xx,yb,yp,yc,xy,w5,xz,x5,w6,jc,x6,Op.operands,Call.operands,yd,qi,w7,AObj.live]
          rw [ih _ (by simp -implicitDefEqProofs [bld2, prow, brow, hf, he, hx, IntWalk.i64_in,IntWalk.u64_in,IntWalk.u8_in,IntWalk.i32_in,IntWalk.u32_in,ye,zk,zm,qj,qk,qm,qn,zb,zc,zn,zp,zq,qo,zd,ze,zr,zt,zu,j3,x7,zw,zf,za,zx,qp,zy,zg,zz,z6,qq,zh,yf,qr,aop,yq,j4,j5,x8,x9,jd,j6,j7,wb,je,j8,yr,j9,wg,jf,jg,xa,xb,z7,jh,z8,ji,jj,yt,yu,xc,AV.one,wh,wi,aun,jk,xd,yw,afn,xe,Out.ren,xf,xg,jl,wj,xh,wl,jm,Eng.distinct,pos,wn,Eng.ren,wo,xi,wp,jo,wq,yg,xj,ws,wu,jp,frz,yx,yz,wv,List.lookup_cons,jq,zi,jr,js,List.range_succ,jt,xk,ju,xm,↓yh,↓yi,↓qt,↓y6,↓qu,↓qa,↓yj,↓yk,↓qv,↓qw,↓qx,↓qy,↓qb,↓qz,qc,ww,xn,jv,jw,yl,qd,qe,zj,wx,y7,jx,xp,xq,keq,y8,wy,qf,y9,ym,xr,jy,jz,xt,j0,wz,ja,j1,xu,xv,xw,jb,q5,q6,yn,q7,j2,Option.map_some,yo,qg,q8,q9,qh,ya,xx,yb,yp,yc,xy,w5,xz,x5,w6,jc,x6,Op.operands,Call.operands,yd,qi,w7,AObj.live])]
          simp
    · have he : pre ≠ [] := fun h => hf (by rw [h]; rfl)
      by_cases hx : x = []
      · subst hx
        simp [bld, wr, hf] at hc
        simp -implicitDefEqProofs [bld2, prow, brow, hf, he, hc, hw2, mid_lt, pos1, mach_loop, IntWalk.i64_in,IntWalk.u64_in,IntWalk.u8_in,IntWalk.i32_in,IntWalk.u32_in,ye,zk,zm,qj,qk,qm,qn,zb,zc,zn,zp,zq,qo,zd,ze,zr,zt,zu,j3,x7,zw,zf,za,zx,qp,zy,zg,zz,z6,qq,zh,yf,qr,aop,yq,j4,j5,x8,x9,jd,j6,j7,wb,je,j8,yr,j9,wg,jf,jg,xa,xb,z7,jh,z8,ji,jj,yt,yu,xc,AV.one,wh,wi,aun,jk,xd,yw,afn,xe,Out.ren,xf,xg,jl,wj,xh,wl,jm,Eng.distinct,pos,wn,Eng.ren,wo,xi,wp,jo,wq,yg,xj,ws,wu,jp,frz,yx,yz,wv,List.lookup_cons,jq,zi,jr,js,List.range_succ,jt,xk,ju,xm,↓yh,↓yi,↓qt,↓y6,↓qu,↓qa,↓yj,↓yk,↓qv,↓qw,↓qx,↓qy,↓qb,↓qz,qc,ww,xn,jv,jw,yl,qd,qe,zj,wx,y7,jx,xp,xq,keq,y8,wy,qf,y9,ym,xr,jy,jz,xt,j0,wz,ja,j1,xu,xv,xw,jb,q5,q6,yn,q7,j2,Option.map_some,yo,qg,q8,q9,qh,ya,xx,yb,yp,yc,xy,w5,xz,x5,w6,jc,x6,Op.operands,Call.operands,yd,qi,w7,AObj.live]
        rw [ih _ (by simp -implicitDefEqProofs [bld2, prow, brow, hf, he, IntWalk.i64_in,IntWalk.u64_in,IntWalk.u8_in,IntWalk.i32_in,IntWalk.u32_in,ye,zk,zm,qj,qk,qm,qn,zb,zc,zn,zp,zq,qo,zd,ze,zr,zt,zu,j3,x7,zw,zf,za,zx,qp,zy,zg,zz,z6,qq,zh,yf,qr,aop,yq,j4,j5,x8,x9,jd,j6,j7,wb,je,j8,yr,j9,wg,jf,jg,xa,xb,z7,jh,z8,ji,jj,yt,yu,xc,AV.one,wh,wi,aun,jk,xd,yw,afn,xe,Out.ren,xf,xg,jl,wj,xh,wl,jm,Eng.distinct,pos,wn,Eng.ren,wo,xi,wp,jo,wq,yg,xj,ws,wu,jp,frz,yx,yz,wv,List.lookup_cons,jq,zi,jr,js,List.range_succ,jt,xk,ju,xm,↓yh,↓yi,↓qt,↓y6,↓qu,↓qa,↓yj,↓yk,↓qv,↓qw,↓qx,↓qy,↓qb,↓qz,qc,ww,xn,jv,jw,yl,qd,qe,zj,wx,y7,jx,xp,xq,keq,y8,wy,qf,y9,ym,xr,jy,jz,xt,j0,wz,ja,j1,xu,xv,xw,jb,q5,q6,yn,q7,j2,Option.map_some,yo,qg,q8,q9,qh,ya,xx,yb,yp,yc,xy,w5,xz,x5,w6,jc,x6,Op.operands,Call.operands,yd,qi,w7,AObj.live])]
        simp
      · simp [bld, wr, hx, hf] at hc
        simp -implicitDefEqProofs [bld2, prow, brow, hf, he, hc, hw2, mid_lt, pos1, mach_loop, IntWalk.i64_in,IntWalk.u64_in,IntWalk.u8_in,IntWalk.i32_in,IntWalk.u32_in,ye,zk,zm,qj,qk,qm,qn,zb,zc,zn,zp,zq,qo,zd,ze,zr,zt,zu,j3,x7,zw,zf,za,zx,qp,zy,zg,zz,z6,qq,zh,yf,qr,aop,yq,j4,j5,x8,x9,jd,j6,j7,wb,je,j8,yr,j9,wg,jf,jg,xa,xb,z7,jh,z8,ji,jj,yt,yu,xc,AV.one,wh,wi,aun,jk,xd,yw,afn,xe,Out.ren,xf,xg,jl,wj,xh,wl,jm,Eng.distinct,pos,wn,Eng.ren,wo,xi,wp,jo,wq,yg,xj,ws,wu,jp,frz,yx,yz,wv,List.lookup_cons,jq,zi,jr,js,List.range_succ,jt,xk,ju,xm,↓yh,↓yi,↓qt,↓y6,↓qu,↓qa,↓yj,↓yk,↓qv,↓qw,↓qx,↓qy,↓qb,↓qz,qc,ww,xn,jv,jw,yl,qd,qe,zj,wx,y7,jx,xp,xq,keq,y8,wy,qf,y9,ym,xr,jy,jz,xt,j0,wz,ja,j1,xu,xv,xw,jb,q5,q6,yn,q7,j2,Option.map_some,yo,qg,q8,q9,qh,ya,xx,yb,yp,yc,xy,w5,xz,x5,w6,jc,x6,Op.operands,Call.operands,yd,qi,w7,AObj.live]
        rw [ih _ (by simp -implicitDefEqProofs [bld2, prow, brow, hf, he, hx, IntWalk.i64_in,IntWalk.u64_in,IntWalk.u8_in,IntWalk.i32_in,IntWalk.u32_in,ye,zk,zm,qj,qk,qm,qn,zb,zc,zn,zp,zq,qo,zd,ze,zr,zt,zu,j3,x7,zw,zf,za,zx,qp,zy,zg,zz,z6,qq,zh,yf,qr,aop,yq,j4,j5,x8,x9,jd,j6,j7,wb,je,j8,yr,j9,wg,jf,jg,xa,xb,z7,jh,z8,ji,jj,yt,yu,xc,AV.one,wh,wi,aun,jk,xd,yw,afn,xe,Out.ren,xf,xg,jl,wj,xh,wl,jm,Eng.distinct,pos,wn,Eng.ren,wo,xi,wp,jo,wq,yg,xj,ws,wu,jp,frz,yx,yz,wv,List.lookup_cons,jq,zi,jr,js,List.range_succ,jt,xk,ju,xm,↓yh,↓yi,↓qt,↓y6,↓qu,↓qa,↓yj,↓yk,↓qv,↓qw,↓qx,↓qy,↓qb,↓qz,qc,ww,xn,jv,jw,yl,qd,qe,zj,wx,y7,jx,xp,xq,keq,y8,wy,qf,y9,ym,xr,jy,jz,xt,j0,wz,ja,j1,xu,xv,xw,jb,q5,q6,yn,q7,j2,Option.map_some,yo,qg,q8,q9,qh,ya,xx,yb,yp,yc,xy,w5,xz,x5,w6,jc,x6,Op.operands,Call.operands,yd,qi,w7,AObj.live])]
        simp
  by_cases hf : ps.flatten = []
  · by_cases he : ps = []
    · simp -implicitDefEqProofs [put2, bld2, prow, brow, he, mach_loop, IntWalk.i64_in,IntWalk.u64_in,IntWalk.u8_in,IntWalk.i32_in,IntWalk.u32_in,ye,zk,zm,qj,qk,qm,qn,zb,zc,zn,zp,zq,qo,zd,ze,zr,zt,zu,j3,x7,zw,zf,za,zx,qp,zy,zg,zz,z6,qq,zh,yf,qr,aop,yq,j4,j5,x8,x9,jd,j6,j7,wb,je,j8,yr,j9,wg,jf,jg,xa,xb,z7,jh,z8,ji,jj,yt,yu,xc,AV.one,wh,wi,aun,jk,xd,yw,afn,xe,Out.ren,xf,xg,jl,wj,xh,wl,jm,Eng.distinct,pos,wn,Eng.ren,wo,xi,wp,jo,wq,yg,xj,ws,wu,jp,frz,yx,yz,wv,List.lookup_cons,jq,zi,jr,js,List.range_succ,jt,xk,ju,xm,↓yh,↓yi,↓qt,↓y6,↓qu,↓qa,↓yj,↓yk,↓qv,↓qw,↓qx,↓qy,↓qb,↓qz,qc,ww,xn,jv,jw,yl,qd,qe,zj,wx,y7,jx,xp,xq,keq,y8,wy,qf,y9,ym,xr,jy,jz,xt,j0,wz,ja,j1,xu,xv,xw,jb,q5,q6,yn,q7,j2,Option.map_some,yo,qg,q8,q9,qh,ya,xx,yb,yp,yc,xy,w5,xz,x5,w6,jc,x6,Op.operands,Call.operands,yd,qi,w7,AObj.live]
    · simp -implicitDefEqProofs [put2, bld2, prow, brow, hf, he, mach_loop, IntWalk.i64_in,IntWalk.u64_in,IntWalk.u8_in,IntWalk.i32_in,IntWalk.u32_in,ye,zk,zm,qj,qk,qm,qn,zb,zc,zn,zp,zq,qo,zd,ze,zr,zt,zu,j3,x7,zw,zf,za,zx,qp,zy,zg,zz,z6,qq,zh,yf,qr,aop,yq,j4,j5,x8,x9,jd,j6,j7,wb,je,j8,yr,j9,wg,jf,jg,xa,xb,z7,jh,z8,ji,jj,yt,yu,xc,AV.one,wh,wi,aun,jk,xd,yw,afn,xe,Out.ren,xf,xg,jl,wj,xh,wl,jm,Eng.distinct,pos,wn,Eng.ren,wo,xi,wp,jo,wq,yg,xj,ws,wu,jp,frz,yx,yz,wv,List.lookup_cons,jq,zi,jr,js,List.range_succ,jt,xk,ju,xm,↓yh,↓yi,↓qt,↓y6,↓qu,↓qa,↓yj,↓yk,↓qv,↓qw,↓qx,↓qy,↓qb,↓qz,qc,ww,xn,jv,jw,yl,qd,qe,zj,wx,y7,jx,xp,xq,keq,y8,wy,qf,y9,ym,xr,jy,jz,xt,j0,wz,ja,j1,xu,xv,xw,jb,q5,q6,yn,q7,j2,Option.map_some,yo,qg,q8,q9,qh,ya,xx,yb,yp,yc,xy,w5,xz,x5,w6,jc,x6,Op.operands,Call.operands,yd,qi,w7,AObj.live]
  · have he : ps ≠ [] := fun h => hf (by rw [h]; rfl)
    simp -implicitDefEqProofs [put2, bld2, prow, brow, hf, he, mach_loop, IntWalk.i64_in,IntWalk.u64_in,IntWalk.u8_in,IntWalk.i32_in,IntWalk.u32_in,ye,zk,zm,qj,qk,qm,qn,zb,zc,zn,zp,zq,qo,zd,ze,zr,zt,zu,j3,x7,zw,zf,za,zx,qp,zy,zg,zz,z6,qq,zh,yf,qr,aop,yq,j4,j5,x8,x9,jd,j6,j7,wb,je,j8,yr,j9,wg,jf,jg,xa,xb,z7,jh,z8,ji,jj,yt,yu,xc,AV.one,wh,wi,aun,jk,xd,yw,afn,xe,Out.ren,xf,xg,jl,wj,xh,wl,jm,Eng.distinct,pos,wn,Eng.ren,wo,xi,wp,jo,wq,yg,xj,ws,wu,jp,frz,yx,yz,wv,List.lookup_cons,jq,zi,jr,js,List.range_succ,jt,xk,ju,xm,↓yh,↓yi,↓qt,↓y6,↓qu,↓qa,↓yj,↓yk,↓qv,↓qw,↓qx,↓qy,↓qb,↓qz,qc,ww,xn,jv,jw,yl,qd,qe,zj,wx,y7,jx,xp,xq,keq,y8,wy,qf,y9,ym,xr,jy,jz,xt,j0,wz,ja,j1,xu,xv,xw,jb,q5,q6,yn,q7,j2,Option.map_some,yo,qg,q8,q9,qh,ya,xx,yb,yp,yc,xy,w5,xz,x5,w6,jc,x6,Op.operands,Call.operands,yd,qi,w7,AObj.live]
end Go.Proofs.YtblejchodicaoaaGreatDoor.Eng

/-
  CONTRACTS: the values within one; how deep it is. Own work.
-/
namespace Go.Proofs.YtblejchodicaoaaGreatDoor.Eng
open Go Go.RowKit
set_option maxRecDepth 100000
set_option linter.unusedSimpArgs false
set_option maxHeartbeats 2000000

theorem take_map_len {α β : Type} (f : α → β) (l : List α) : List.take l.length (l.map f) = l.map f := List.take_of_length_le (by simp)
/-- A slice that was nil, and was appended to. -/
def slD (sz : Nat) (es : List (List D)) : D := if es = [] then .nils else .rs sz es

theorem b_within (C : Oracle) (v : V) (hsz : v.size ≤ 1099511627776) :
    abody Tryz.prog [] C (mach Tryz.prog C { keep := [(1674, [1, 2, 12, 13, 14])], outs := [(1674, [1, 2])] }) true 144 [avV v] [] = R (slD 6 ((withinV v).map encV)) := by
  unfold abody
  rw [Tryz.func144]
  simp only [Tryz.f144]
  have hl1 := V.l_len v
  have ho1 := V.o_len v
  by_cases h6 : v.k = 6
  rotate_left
  · by_cases h5 : v.k = 5
    · by_cases hl : v.l = []
      · simp -implicitDefEqProofs [R, avV, slD, withinV, h6, h5, hl, IntWalk.i64_in,IntWalk.u64_in,IntWalk.u8_in,IntWalk.i32_in,IntWalk.u32_in,ye,zk,zm,qj,qk,qm,qn,zb,zc,zn,zp,zq,qo,zd,ze,zr,zt,zu,j3,x7,zw,zf,za,zx,qp,zy,zg,zz,z6,qq,zh,yf,qr,aop,yq,j4,j5,x8,x9,jd,j6,j7,wb,je,j8,yr,j9,wg,jf,jg,xa,xb,z7,jh,z8,ji,jj,yt,yu,xc,AV.one,wh,wi,aun,jk,xd,yw,afn,xe,Out.ren,xf,xg,jl,wj,xh,wl,jm,Eng.distinct,pos,wn,Eng.ren,wo,xi,wp,jo,wq,yg,xj,ws,wu,jp,frz,yx,yz,wv,List.lookup_cons,jq,zi,jr,js,List.range_succ,jt,xk,ju,xm,↓yh,↓yi,↓qt,↓y6,↓qu,↓qa,↓yj,↓yk,↓qv,↓qw,↓qx,↓qy,↓qb,↓qz,qc,ww,xn,jv,jw,yl,qd,qe,zj,wx,y7,jx,xp,xq,keq,y8,wy,qf,y9,ym,xr,jy,jz,xt,j0,wz,ja,j1,xu,xv,xw,jb,q5,q6,yn,q7,j2,Option.map_some,yo,qg,q8,q9,qh,ya,xx,yb,yp,yc,xy,w5,xz,x5,w6,jc,x6,Op.operands,Call.operands,yd,qi,w7,AObj.live]
      · have hl2 : ¬ v.l.length = 0 := by simpa using hl
        have hl3 : v.l.length * 88 ≤ 140737488355328 := by omega
        have hl4 : v.l.length ≤ 140737488355328 := by omega
        simp -implicitDefEqProofs [R, avV, slD, withinV, h6, h5, hl, hl2, hl3, hl4, take_map_len, IntWalk.i64_in,IntWalk.u64_in,IntWalk.u8_in,IntWalk.i32_in,IntWalk.u32_in,ye,zk,zm,qj,qk,qm,qn,zb,zc,zn,zp,zq,qo,zd,ze,zr,zt,zu,j3,x7,zw,zf,za,zx,qp,zy,zg,zz,z6,qq,zh,yf,qr,aop,yq,j4,j5,x8,x9,jd,j6,j7,wb,je,j8,yr,j9,wg,jf,jg,xa,xb,z7,jh,z8,ji,jj,yt,yu,xc,AV.one,wh,wi,aun,jk,xd,yw,afn,xe,Out.ren,xf,xg,jl,wj,xh,wl,jm,Eng.distinct,pos,wn,Eng.ren,wo,xi,wp,jo,wq,yg,xj,ws,wu,jp,frz,yx,yz,wv,List.lookup_cons,jq,zi,jr,js,List.range_succ,jt,xk,ju,xm,↓yh,↓yi,↓qt,↓y6,↓qu,↓qa,↓yj,↓yk,↓qv,↓qw,↓qx,↓qy,↓qb,↓qz,qc,ww,xn,jv,jw,yl,qd,qe,zj,wx,y7,jx,xp,xq,keq,y8,wy,qf,y9,ym,xr,jy,jz,xt,j0,wz,ja,j1,xu,xv,xw,jb,q5,q6,yn,q7,j2,Option.map_some,yo,qg,q8,q9,qh,ya,xx,yb,yp,yc,xy,w5,xz,x5,w6,jc,x6,Op.operands,Call.operands,yd,qi,w7,AObj.live]
    · simp -implicitDefEqProofs [R, avV, slD, withinV, h6, h5, IntWalk.i64_in,IntWalk.u64_in,IntWalk.u8_in,IntWalk.i32_in,IntWalk.u32_in,ye,zk,zm,qj,qk,qm,qn,zb,zc,zn,zp,zq,qo,zd,ze,zr,zt,zu,j3,x7,zw,zf,za,zx,qp,zy,zg,zz,z6,qq,zh,yf,qr,aop,yq,j4,j5,x8,x9,jd,j6,j7,wb,je,j8,yr,j9,wg,jf,jg,xa,xb,z7,jh,z8,ji,jj,yt,yu,xc,AV.one,wh,wi,aun,jk,xd,yw,afn,xe,Out.ren,xf,xg,jl,wj,xh,wl,jm,Eng.distinct,pos,wn,Eng.ren,wo,xi,wp,jo,wq,yg,xj,ws,wu,jp,frz,yx,yz,wv,List.lookup_cons,jq,zi,jr,js,List.range_succ,jt,xk,ju,xm,↓yh,↓yi,↓qt,↓y6,↓qu,↓qa,↓yj,↓yk,↓qv,↓qw,↓qx,↓qy,↓qb,↓qz,qc,ww,xn,jv,jw,yl,qd,qe,zj,wx,y7,jx,xp,xq,keq,y8,wy,qf,y9,ym,xr,jy,jz,xt,j0,wz,ja,j1,xu,xv,xw,jb,q5,q6,yn,q7,j2,Option.map_some,yo,qg,q8,q9,qh,ya,xx,yb,yp,yc,xy,w5,xz,x5,w6,jc,x6,Op.operands,Call.operands,yd,qi,w7,AObj.live]
  simp -implicitDefEqProofs [R, avV, h6, mach_loop, IntWalk.i64_in,IntWalk.u64_in,IntWalk.u8_in,IntWalk.i32_in,IntWalk.u32_in,ye,zk,zm,qj,qk,qm,qn,zb,zc,zn,zp,zq,qo,zd,ze,zr,zt,zu,j3,x7,zw,zf,za,zx,qp,zy,zg,zz,z6,qq,zh,yf,qr,aop,yq,j4,j5,x8,x9,jd,j6,j7,wb,je,j8,yr,j9,wg,jf,jg,xa,xb,z7,jh,z8,ji,jj,yt,yu,xc,AV.one,wh,wi,aun,jk,xd,yw,afn,xe,Out.ren,xf,xg,jl,wj,xh,wl,jm,Eng.distinct,pos,wn,Eng.ren,wo,xi,wp,jo,wq,yg,xj,ws,wu,jp,frz,yx,yz,wv,List.lookup_cons,jq,zi,jr,js,List.range_succ,jt,xk,ju,xm,↓yh,↓yi,↓qt,↓y6,↓qu,↓qa,↓yj,↓yk,↓qv,↓qw,↓qx,↓qy,↓qb,↓qz,qc,ww,xn,jv,jw,yl,qd,qe,zj,wx,y7,jx,xp,xq,keq,y8,wy,qf,y9,ym,xr,jy,jz,xt,j0,wz,ja,j1,xu,xv,xw,jb,q5,q6,yn,q7,j2,Option.map_some,yo,qg,q8,q9,qh,ya,xx,yb,yp,yc,xy,w5,xz,x5,w6,jc,x6,Op.operands,Call.operands,yd,qi,w7,AObj.live]
  rw [aloop_list (l := v.o)
    (S := fun pre suf => { env := [(1, .ptr 0 0), (2, if pre = [] then .d .nils else .sl 1 6 0 pre.length), (12, .d (.rs 7 ((pre ++ suf).map encM))), (13, .d (.int .i64 ((pre ++ suf).length : Nat))), (14, .d (.int .i64 (pre.length : Nat)))], σ := .box [.d (.int .i64 6), .d (.bool v.b), .d (.int .i64 v.n), .d (.str v.t), .d (.rs 6 (v.l.map encV)), .d (.rs 7 (v.o.map encM))] 45 :: (if pre = [] then [] else [.drow (pre.map fun m => encV m.v) 45 6]), dfs := [] })
    (R := fun pre suf => some (.exit 3, { env := [(1, .ptr 0 0), (2, if pre ++ suf = [] then .d .nils else .sl 1 6 0 (pre ++ suf).length)], σ := .box [.d (.int .i64 6), .d (.bool v.b), .d (.int .i64 v.n), .d (.str v.t), .d (.rs 6 (v.l.map encV)), .d (.rs 7 (v.o.map encM))] 45 :: (if pre ++ suf = [] then [] else [.drow ((pre ++ suf).map fun m => encV m.v) 45 6]), dfs := [] }))
    (hs := ?_) (h0 := ?_) (h1 := ?_)]
  rotate_left
  · simp -implicitDefEqProofs [IntWalk.i64_in,IntWalk.u64_in,IntWalk.u8_in,IntWalk.i32_in,IntWalk.u32_in,ye,zk,zm,qj,qk,qm,qn,zb,zc,zn,zp,zq,qo,zd,ze,zr,zt,zu,j3,x7,zw,zf,za,zx,qp,zy,zg,zz,z6,qq,zh,yf,qr,aop,yq,j4,j5,x8,x9,jd,j6,j7,wb,je,j8,yr,j9,wg,jf,jg,xa,xb,z7,jh,z8,ji,jj,yt,yu,xc,AV.one,wh,wi,aun,jk,xd,yw,afn,xe,Out.ren,xf,xg,jl,wj,xh,wl,jm,Eng.distinct,pos,wn,Eng.ren,wo,xi,wp,jo,wq,yg,xj,ws,wu,jp,frz,yx,yz,wv,List.lookup_cons,jq,zi,jr,js,List.range_succ,jt,xk,ju,xm,↓yh,↓yi,↓qt,↓y6,↓qu,↓qa,↓yj,↓yk,↓qv,↓qw,↓qx,↓qy,↓qb,↓qz,qc,ww,xn,jv,jw,yl,qd,qe,zj,wx,y7,jx,xp,xq,keq,y8,wy,qf,y9,ym,xr,jy,jz,xt,j0,wz,ja,j1,xu,xv,xw,jb,q5,q6,yn,q7,j2,Option.map_some,yo,qg,q8,q9,qh,ya,xx,yb,yp,yc,xy,w5,xz,x5,w6,jc,x6,Op.operands,Call.operands,yd,qi,w7,AObj.live]
  · intro pre hp
    by_cases hpe : pre = []
    · simp -implicitDefEqProofs [mach_loop, hpe, IntWalk.i64_in,IntWalk.u64_in,IntWalk.u8_in,IntWalk.i32_in,IntWalk.u32_in,ye,zk,zm,qj,qk,qm,qn,zb,zc,zn,zp,zq,qo,zd,ze,zr,zt,zu,j3,x7,zw,zf,za,zx,qp,zy,zg,zz,z6,qq,zh,yf,qr,aop,yq,j4,j5,x8,x9,jd,j6,j7,wb,je,j8,yr,j9,wg,jf,jg,xa,xb,z7,jh,z8,ji,jj,yt,yu,xc,AV.one,wh,wi,aun,jk,xd,yw,afn,xe,Out.ren,xf,xg,jl,wj,xh,wl,jm,Eng.distinct,pos,wn,Eng.ren,wo,xi,wp,jo,wq,yg,xj,ws,wu,jp,frz,yx,yz,wv,List.lookup_cons,jq,zi,jr,js,List.range_succ,jt,xk,ju,xm,↓yh,↓yi,↓qt,↓y6,↓qu,↓qa,↓yj,↓yk,↓qv,↓qw,↓qx,↓qy,↓qb,↓qz,qc,ww,xn,jv,jw,yl,qd,qe,zj,wx,y7,jx,xp,xq,keq,y8,wy,qf,y9,ym,xr,jy,jz,xt,j0,wz,ja,j1,xu,xv,xw,jb,q5,q6,yn,q7,j2,Option.map_some,yo,qg,q8,q9,qh,ya,xx,yb,yp,yc,xy,w5,xz,x5,w6,jc,x6,Op.operands,Call.operands,yd,qi,w7,AObj.live]
    · simp -implicitDefEqProofs [mach_loop, hpe, IntWalk.i64_in,IntWalk.u64_in,IntWalk.u8_in,IntWalk.i32_in,IntWalk.u32_in,ye,zk,zm,qj,qk,qm,qn,zb,zc,zn,zp,zq,qo,zd,ze,zr,zt,zu,j3,x7,zw,zf,za,zx,qp,zy,zg,zz,z6,qq,zh,yf,qr,aop,yq,j4,j5,x8,x9,jd,j6,j7,wb,je,j8,yr,j9,wg,jf,jg,xa,xb,z7,jh,z8,ji,jj,yt,yu,xc,AV.one,wh,wi,aun,jk,xd,yw,afn,xe,Out.ren,xf,xg,jl,wj,xh,wl,jm,Eng.distinct,pos,wn,Eng.ren,wo,xi,wp,jo,wq,yg,xj,ws,wu,jp,frz,yx,yz,wv,List.lookup_cons,jq,zi,jr,js,List.range_succ,jt,xk,ju,xm,↓yh,↓yi,↓qt,↓y6,↓qu,↓qa,↓yj,↓yk,↓qv,↓qw,↓qx,↓qy,↓qb,↓qz,qc,ww,xn,jv,jw,yl,qd,qe,zj,wx,y7,jx,xp,xq,keq,y8,wy,qf,y9,ym,xr,jy,jz,xt,j0,wz,ja,j1,xu,xv,xw,jb,q5,q6,yn,q7,j2,Option.map_some,yo,qg,q8,q9,qh,ya,xx,yb,yp,yc,xy,w5,xz,x5,w6,jc,x6,Op.operands,Call.operands,yd,qi,w7,AObj.live]
  · intro pre m suf hp ih
    have hll : pre.length < v.o.length := by rw [← hp]; simp
    have hw2 : IntKind.i64.wrap ((pre.length : Nat) + 1) = (pre.length : Nat) + 1 := wrap64 (by omega) (by omega)
    have hl3 : (pre.length + 1) * 88 ≤ 140737488355328 := by omega
    have hl4 : pre.length + 1 ≤ 140737488355328 := by omega
    by_cases hpe : pre = []
    · subst hpe
      simp -implicitDefEqProofs [mach_loop, hw2, encM_eq, encV_eq, mid_lt, IntWalk.i64_in,IntWalk.u64_in,IntWalk.u8_in,IntWalk.i32_in,IntWalk.u32_in,ye,zk,zm,qj,qk,qm,qn,zb,zc,zn,zp,zq,qo,zd,ze,zr,zt,zu,j3,x7,zw,zf,za,zx,qp,zy,zg,zz,z6,qq,zh,yf,qr,aop,yq,j4,j5,x8,x9,jd,j6,j7,wb,je,j8,yr,j9,wg,jf,jg,xa,xb,z7,jh,z8,ji,jj,yt,yu,xc,AV.one,wh,wi,aun,jk,xd,yw,afn,xe,Out.ren,xf,xg,jl,wj,xh,wl,jm,Eng.distinct,pos,wn,Eng.ren,wo,xi,wp,jo,wq,yg,xj,ws,wu,jp,frz,yx,yz,wv,List.lookup_cons,jq,zi,jr,js,List.range_succ,jt,xk,ju,xm,↓yh,↓yi,↓qt,↓y6,↓qu,↓qa,↓yj,↓yk,↓qv,↓qw,↓qx,↓qy,↓qb,↓qz,qc,ww,xn,jv,jw,yl,qd,qe,zj,wx,y7,jx,xp,xq,keq,y8,wy,qf,y9,ym,xr,jy,jz,xt,j0,wz,ja,j1,xu,xv,xw,jb,q5,q6,yn,q7,j2,Option.map_some,yo,qg,q8,q9,qh,ya,xx,yb,yp,yc,xy,w5,xz,x5,w6,jc,x6,Op.operands,Call.operands,yd,qi,w7,AObj.live]
      rw [ih _ (by simp -implicitDefEqProofs [encM_eq, encV_eq, IntWalk.i64_in,IntWalk.u64_in,IntWalk.u8_in,IntWalk.i32_in,IntWalk.u32_in,ye,zk,zm,qj,qk,qm,qn,zb,zc,zn,zp,zq,qo,zd,ze,zr,zt,zu,j3,x7,zw,zf,za,zx,qp,zy,zg,zz,z6,qq,zh,yf,qr,aop,yq,j4,j5,x8,x9,jd,j6,j7,wb,je,j8,yr,j9,wg,jf,jg,xa,xb,z7,jh,z8,ji,jj,yt,yu,xc,AV.one,wh,wi,aun,jk,xd,yw,afn,xe,Out.ren,xf,xg,jl,wj,xh,wl,jm,Eng.distinct,pos,wn,Eng.ren,wo,xi,wp,jo,wq,yg,xj,ws,wu,jp,frz,yx,yz,wv,List.lookup_cons,jq,zi,jr,js,List.range_succ,jt,xk,ju,xm,↓yh,↓yi,↓qt,↓y6,↓qu,↓qa,↓yj,↓yk,↓qv,↓qw,↓qx,↓qy,↓qb,↓qz,qc,ww,xn,jv,jw,yl,qd,qe,zj,wx,y7,jx,xp,xq,keq,y8,wy,qf,y9,ym,xr,jy,jz,xt,j0,wz,ja,j1,xu,xv,xw,jb,q5,q6,yn,q7,j2,Option.map_some,yo,qg,q8,q9,qh,ya,xx,yb,yp,yc,xy,w5,xz,x5,w6,jc,x6,Op.operands,Call.operands,yd,qi,w7,AObj.live] <;> omega)]
      simp -implicitDefEqProofs [encM_eq, encV_eq, IntWalk.i64_in,IntWalk.u64_in,IntWalk.u8_in,IntWalk.i32_in,IntWalk.u32_in,ye,zk,zm,qj,qk,qm,qn,zb,zc,zn,zp,zq,qo,zd,ze,zr,zt,zu,j3,x7,zw,zf,za,zx,qp,zy,zg,zz,z6,qq,zh,yf,qr,aop,yq,j4,j5,x8,x9,jd,j6,j7,wb,je,j8,yr,j9,wg,jf,jg,xa,xb,z7,jh,z8,ji,jj,yt,yu,xc,AV.one,wh,wi,aun,jk,xd,yw,afn,xe,Out.ren,xf,xg,jl,wj,xh,wl,jm,Eng.distinct,pos,wn,Eng.ren,wo,xi,wp,jo,wq,yg,xj,ws,wu,jp,frz,yx,yz,wv,List.lookup_cons,jq,zi,jr,js,List.range_succ,jt,xk,ju,xm,↓yh,↓yi,↓qt,↓y6,↓qu,↓qa,↓yj,↓yk,↓qv,↓qw,↓qx,↓qy,↓qb,↓qz,qc,ww,xn,jv,jw,yl,qd,qe,zj,wx,y7,jx,xp,xq,keq,y8,wy,qf,y9,ym,xr,jy,jz,xt,j0,wz,ja,j1,xu,xv,xw,jb,q5,q6,yn,q7,j2,Option.map_some,yo,qg,q8,q9,qh,ya,xx,yb,yp,yc,xy,w5,xz,x5,w6,jc,x6,Op.operands,Call.operands,yd,qi,w7,AObj.live]
    · simp -implicitDefEqProofs [mach_loop, hpe, hw2, hl3, hl4, encM_eq, encV_eq, mid_lt, IntWalk.i64_in,IntWalk.u64_in,IntWalk.u8_in,IntWalk.i32_in,IntWalk.u32_in,ye,zk,zm,qj,qk,qm,qn,zb,zc,zn,zp,zq,qo,zd,ze,zr,zt,zu,j3,x7,zw,zf,za,zx,qp,zy,zg,zz,z6,qq,zh,yf,qr,aop,yq,j4,j5,x8,x9,jd,j6,j7,wb,je,j8,yr,j9,wg,jf,jg,xa,xb,z7,jh,z8,ji,jj,yt,yu,xc,AV.one,wh,wi,aun,jk,xd,yw,afn,xe,Out.ren,xf,xg,jl,wj,xh,wl,jm,Eng.distinct,pos,wn,Eng.ren,wo,xi,wp,jo,wq,yg,xj,ws,wu,jp,frz,yx,yz,wv,List.lookup_cons,jq,zi,jr,js,List.range_succ,jt,xk,ju,xm,↓yh,↓yi,↓qt,↓y6,↓qu,↓qa,↓yj,↓yk,↓qv,↓qw,↓qx,↓qy,↓qb,↓qz,qc,ww,xn,jv,jw,yl,qd,qe,zj,wx,y7,jx,xp,xq,keq,y8,wy,qf,y9,ym,xr,jy,jz,xt,j0,wz,ja,j1,xu,xv,xw,jb,q5,q6,yn,q7,j2,Option.map_some,yo,qg,q8,q9,qh,ya,xx,yb,yp,yc,xy,w5,xz,x5,w6,jc,x6,Op.operands,Call.operands,yd,qi,w7,AObj.live]
      rw [ih _ (by simp -implicitDefEqProofs [hpe, encM_eq, encV_eq, IntWalk.i64_in,IntWalk.u64_in,IntWalk.u8_in,IntWalk.i32_in,IntWalk.u32_in,ye,zk,zm,qj,qk,qm,qn,zb,zc,zn,zp,zq,qo,zd,ze,zr,zt,zu,j3,x7,zw,zf,za,zx,qp,zy,zg,zz,z6,qq,zh,yf,qr,aop,yq,j4,j5,x8,x9,jd,j6,j7,wb,je,j8,yr,j9,wg,jf,jg,xa,xb,z7,jh,z8,ji,jj,yt,yu,xc,AV.one,wh,wi,aun,jk,xd,yw,afn,xe,Out.ren,xf,xg,jl,wj,xh,wl,jm,Eng.distinct,pos,wn,Eng.ren,wo,xi,wp,jo,wq,yg,xj,ws,wu,jp,frz,yx,yz,wv,List.lookup_cons,jq,zi,jr,js,List.range_succ,jt,xk,ju,xm,↓yh,↓yi,↓qt,↓y6,↓qu,↓qa,↓yj,↓yk,↓qv,↓qw,↓qx,↓qy,↓qb,↓qz,qc,ww,xn,jv,jw,yl,qd,qe,zj,wx,y7,jx,xp,xq,keq,y8,wy,qf,y9,ym,xr,jy,jz,xt,j0,wz,ja,j1,xu,xv,xw,jb,q5,q6,yn,q7,j2,Option.map_some,yo,qg,q8,q9,qh,ya,xx,yb,yp,yc,xy,w5,xz,x5,w6,jc,x6,Op.operands,Call.operands,yd,qi,w7,AObj.live] <;> omega)]
      simp -implicitDefEqProofs [hpe, encM_eq, encV_eq, IntWalk.i64_in,IntWalk.u64_in,IntWalk.u8_in,IntWalk.i32_in,IntWalk.u32_in,ye,zk,zm,qj,qk,qm,qn,zb,zc,zn,zp,zq,qo,zd,ze,zr,zt,zu,j3,x7,zw,zf,za,zx,qp,zy,zg,zz,z6,qq,zh,yf,qr,aop,yq,j4,j5,x8,x9,jd,j6,j7,wb,je,j8,yr,j9,wg,jf,jg,xa,xb,z7,jh,z8,ji,jj,yt,yu,xc,AV.one,wh,wi,aun,jk,xd,yw,afn,xe,Out.ren,xf,xg,jl,wj,xh,wl,jm,Eng.distinct,pos,wn,Eng.ren,wo,xi,wp,jo,wq,yg,xj,ws,wu,jp,frz,yx,yz,wv,List.lookup_cons,jq,zi,jr,js,List.range_succ,jt,xk,ju,xm,↓yh,↓yi,↓qt,↓y6,↓qu,↓qa,↓yj,↓yk,↓qv,↓qw,↓qx,↓qy,↓qb,↓qz,qc,ww,xn,jv,jw,yl,qd,qe,zj,wx,y7,jx,xp,xq,keq,y8,wy,qf,y9,ym,xr,jy,jz,xt,j0,wz,ja,j1,xu,xv,xw,jb,q5,q6,yn,q7,j2,Option.map_some,yo,qg,q8,q9,qh,ya,xx,yb,yp,yc,xy,w5,xz,x5,w6,jc,x6,Op.operands,Call.operands,yd,qi,w7,AObj.live]
  by_cases hoe : v.o = []
  · simp -implicitDefEqProofs [R, slD, withinV, h6, hoe, mach_loop, IntWalk.i64_in,IntWalk.u64_in,IntWalk.u8_in,IntWalk.i32_in,IntWalk.u32_in,ye,zk,zm,qj,qk,qm,qn,zb,zc,zn,zp,zq,qo,zd,ze,zr,zt,zu,j3,x7,zw,zf,za,zx,qp,zy,zg,zz,z6,qq,zh,yf,qr,aop,yq,j4,j5,x8,x9,jd,j6,j7,wb,je,j8,yr,j9,wg,jf,jg,xa,xb,z7,jh,z8,ji,jj,yt,yu,xc,AV.one,wh,wi,aun,jk,xd,yw,afn,xe,Out.ren,xf,xg,jl,wj,xh,wl,jm,Eng.distinct,pos,wn,Eng.ren,wo,xi,wp,jo,wq,yg,xj,ws,wu,jp,frz,yx,yz,wv,List.lookup_cons,jq,zi,jr,js,List.range_succ,jt,xk,ju,xm,↓yh,↓yi,↓qt,↓y6,↓qu,↓qa,↓yj,↓yk,↓qv,↓qw,↓qx,↓qy,↓qb,↓qz,qc,ww,xn,jv,jw,yl,qd,qe,zj,wx,y7,jx,xp,xq,keq,y8,wy,qf,y9,ym,xr,jy,jz,xt,j0,wz,ja,j1,xu,xv,xw,jb,q5,q6,yn,q7,j2,Option.map_some,yo,qg,q8,q9,qh,ya,xx,yb,yp,yc,xy,w5,xz,x5,w6,jc,x6,Op.operands,Call.operands,yd,qi,w7,AObj.live]
  · simp -implicitDefEqProofs [R, slD, withinV, h6, hoe, mach_loop, take_map_len, Function.comp_def, IntWalk.i64_in,IntWalk.u64_in,IntWalk.u8_in,IntWalk.i32_in,IntWalk.u32_in,ye,zk,zm,qj,qk,qm,qn,zb,zc,zn,zp,zq,qo,zd,ze,zr,zt,zu,j3,x7,zw,zf,za,zx,qp,zy,zg,zz,z6,qq,zh,yf,qr,aop,yq,j4,j5,x8,x9,jd,j6,j7,wb,je,j8,yr,j9,wg,jf,jg,xa,xb,z7,jh,z8,ji,jj,yt,yu,xc,AV.one,wh,wi,aun,jk,xd,yw,afn,xe,Out.ren,xf,xg,jl,wj,xh,wl,jm,Eng.distinct,pos,wn,Eng.ren,wo,xi,wp,jo,wq,yg,xj,ws,wu,jp,frz,yx,yz,wv,List.lookup_cons,jq,zi,jr,js,List.range_succ,jt,xk,ju,xm,↓yh,↓yi,↓qt,↓y6,↓qu,↓qa,↓yj,↓yk,↓qv,↓qw,↓qx,↓qy,↓qb,↓qz,qc,ww,xn,jv,jw,yl,qd,qe,zj,wx,y7,jx,xp,xq,keq,y8,wy,qf,y9,ym,xr,jy,jz,xt,j0,wz,ja,j1,xu,xv,xw,jb,q5,q6,yn,q7,j2,Option.map_some,yo,qg,q8,q9,qh,ya,xx,yb,yp,yc,xy,w5,xz,x5,w6,jc,x6,Op.operands,Call.operands,yd,qi,w7,AObj.live]

theorem deepL_nonneg : ∀ l : List V, 0 ≤ deepL l
  | [] => Int.le_refl _
  | x :: r => by
    have := deepL_nonneg r
    simp only [deepL]
    omega
theorem deepL_snoc (x : V) : ∀ l : List V, 0 ≤ deepV x → deepL (l ++ [x]) = if deepL l < deepV x then deepV x else deepL l
  | [], h => by
    by_cases hx : 0 < deepV x
    · rw [if_pos (by simpa [deepL] using hx)]; simp only [List.nil_append, deepL]; omega
    · rw [if_neg (by simpa [deepL] using hx)]; simp only [List.nil_append, deepL]; omega
  | y :: r, h => by
    have ih := deepL_snoc x r h
    by_cases h1 : deepL r < deepV x
    · rw [if_pos h1] at ih
      by_cases h2 : deepL (y :: r) < deepV x
      · rw [if_pos h2]; simp only [List.cons_append, deepL, ih] at h2 ⊢ <;> omega
      · rw [if_neg h2]; simp only [List.cons_append, deepL, ih] at h2 ⊢ <;> omega
    · rw [if_neg h1] at ih
      by_cases h2 : deepL (y :: r) < deepV x
      · rw [if_pos h2]; simp only [List.cons_append, deepL, ih] at h2 ⊢ <;> omega
      · rw [if_neg h2]; simp only [List.cons_append, deepL, ih] at h2 ⊢ <;> omega
theorem deepO_map (l : List M) : deepO l = deepL (l.map M.v) := by
  induction l with
  | nil => rfl
  | cons m r ih =>
    obtain ⟨k, v⟩ := m
    simp only [deepO, deepM, List.map_cons, M.v, deepL, ih]
theorem deepV_eq (v : V) : deepV v = deepL (withinV v) + 1 := by
  obtain ⟨k, b, n, t, l, o⟩ := v
  by_cases h6 : k = 6
  · simp [deepV, withinV, V.k, V.o, V.l, deepO_map, h6]
  · by_cases h5 : k = 5
    · simp [deepV, withinV, V.k, V.o, V.l, deepO_map, h5]
    · simp [deepV, withinV, V.k, V.o, V.l, deepO_map, h6, h5, deepL]
mutual
theorem deepV_le : ∀ v : V, deepV v ≤ v.size
  | .mk k b n t l o => by
    have h1 := deepL_le l
    have h2 := deepO_le o
    simp only [deepV, V.size]
    split
    · omega
    · split <;> omega
theorem deepM_le : ∀ m : M, deepM m ≤ m.size
  | .mk k v => by
    have := deepV_le v
    simp only [deepM, M.size]
    omega
theorem deepL_le : ∀ l : List V, deepL l ≤ V.sizes l
  | [] => by simp [deepL, V.sizes]
  | x :: r => by
    have h1 := deepV_le x
    have h2 := deepL_le r
    simp only [deepL, V.sizes]
    omega
theorem deepO_le : ∀ l : List M, deepO l ≤ M.sizes l
  | [] => by simp [deepO, M.sizes]
  | x :: r => by
    have h1 := deepM_le x
    have h2 := deepO_le r
    simp only [deepO, M.sizes]
    omega
end
theorem withinV_size {v x : V} (h : x ∈ withinV v) : x.size < v.size := by
  unfold withinV at h
  split at h
  · obtain ⟨m, hm, rfl⟩ := List.mem_map.1 h
    exact V.size_o hm
  · split at h
    · exact V.size_l h
    · cases h
theorem withinV_len (v : V) : (withinV v).length < v.size := by
  unfold withinV
  split
  · rw [List.length_map]; exact V.o_len v
  · split
    · exact V.l_len v
    · have := V.t_len v; simp; omega
theorem deepV_pos (v : V) : 1 ≤ deepV v := by rw [deepV_eq]; have := deepL_nonneg (withinV v); omega

theorem b_Deep (C : Oracle) (v : V) (hsz : v.size ≤ 1099511627776) (h1 : C 144 [avV v] [] = R (slD 6 ((withinV v).map encV))) (h2 : ∀ x, x.size < v.size → C 113 [avV x] [] = R (.int .i64 (deepV x))) :
    abody Tryz.prog [] C (mach Tryz.prog C { keep := [(26, [2, 6, 7, 8])], outs := [(26, [2])] }) true 113 [avV v] [] = R (.int .i64 (deepV v)) := by
  have hd := deepV_eq v
  have hle := deepV_le v
  have hll := withinV_len v
  have hn := deepL_nonneg (withinV v)
  have hw : IntKind.i64.wrap (deepL (withinV v) + 1) = deepL (withinV v) + 1 := wrap64 (by omega) (by omega)
  simp only [R, avV] at h1 h2
  unfold abody
  rw [Tryz.func113]
  simp only [Tryz.f113]
  by_cases hwe : withinV v = []
  · simp [hwe, slD] at h1
    simp -implicitDefEqProofs [R, avV, h1, mach_loop, IntWalk.i64_in,IntWalk.u64_in,IntWalk.u8_in,IntWalk.i32_in,IntWalk.u32_in,ye,zk,zm,qj,qk,qm,qn,zb,zc,zn,zp,zq,qo,zd,ze,zr,zt,zu,j3,x7,zw,zf,za,zx,qp,zy,zg,zz,z6,qq,zh,yf,qr,aop,yq,j4,j5,x8,x9,jd,j6,j7,wb,je,j8,yr,j9,wg,jf,jg,xa,xb,z7,jh,z8,ji,jj,yt,yu,xc,AV.one,wh,wi,aun,jk,xd,yw,afn,xe,Out.ren,xf,xg,jl,wj,xh,wl,jm,Eng.distinct,pos,wn,Eng.ren,wo,xi,wp,jo,wq,yg,xj,ws,wu,jp,frz,yx,yz,wv,List.lookup_cons,jq,zi,jr,js,List.range_succ,jt,xk,ju,xm,↓yh,↓yi,↓qt,↓y6,↓qu,↓qa,↓yj,↓yk,↓qv,↓qw,↓qx,↓qy,↓qb,↓qz,qc,ww,xn,jv,jw,yl,qd,qe,zj,wx,y7,jx,xp,xq,keq,y8,wy,qf,y9,ym,xr,jy,jz,xt,j0,wz,ja,j1,xu,xv,xw,jb,q5,q6,yn,q7,j2,Option.map_some,yo,qg,q8,q9,qh,ya,xx,yb,yp,yc,xy,w5,xz,x5,w6,jc,x6,Op.operands,Call.operands,yd,qi,w7,AObj.live]
    rw [aloop_round]
    simp -implicitDefEqProofs [R, avV, hd, hwe, deepL, mach_loop, IntWalk.i64_in,IntWalk.u64_in,IntWalk.u8_in,IntWalk.i32_in,IntWalk.u32_in,ye,zk,zm,qj,qk,qm,qn,zb,zc,zn,zp,zq,qo,zd,ze,zr,zt,zu,j3,x7,zw,zf,za,zx,qp,zy,zg,zz,z6,qq,zh,yf,qr,aop,yq,j4,j5,x8,x9,jd,j6,j7,wb,je,j8,yr,j9,wg,jf,jg,xa,xb,z7,jh,z8,ji,jj,yt,yu,xc,AV.one,wh,wi,aun,jk,xd,yw,afn,xe,Out.ren,xf,xg,jl,wj,xh,wl,jm,Eng.distinct,pos,wn,Eng.ren,wo,xi,wp,jo,wq,yg,xj,ws,wu,jp,frz,yx,yz,wv,List.lookup_cons,jq,zi,jr,js,List.range_succ,jt,xk,ju,xm,↓yh,↓yi,↓qt,↓y6,↓qu,↓qa,↓yj,↓yk,↓qv,↓qw,↓qx,↓qy,↓qb,↓qz,qc,ww,xn,jv,jw,yl,qd,qe,zj,wx,y7,jx,xp,xq,keq,y8,wy,qf,y9,ym,xr,jy,jz,xt,j0,wz,ja,j1,xu,xv,xw,jb,q5,q6,yn,q7,j2,Option.map_some,yo,qg,q8,q9,qh,ya,xx,yb,yp,yc,xy,w5,xz,x5,w6,jc,x6,Op.operands,Call.operands,yd,qi,w7,AObj.live]
  have hse : slD 6 ((withinV v).map encV) = .rs 6 ((withinV v).map encV) := by simp [slD, hwe]
  rw [hse] at h1
  simp -implicitDefEqProofs [R, avV, h1, mach_loop, IntWalk.i64_in,IntWalk.u64_in,IntWalk.u8_in,IntWalk.i32_in,IntWalk.u32_in,ye,zk,zm,qj,qk,qm,qn,zb,zc,zn,zp,zq,qo,zd,ze,zr,zt,zu,j3,x7,zw,zf,za,zx,qp,zy,zg,zz,z6,qq,zh,yf,qr,aop,yq,j4,j5,x8,x9,jd,j6,j7,wb,je,j8,yr,j9,wg,jf,jg,xa,xb,z7,jh,z8,ji,jj,yt,yu,xc,AV.one,wh,wi,aun,jk,xd,yw,afn,xe,Out.ren,xf,xg,jl,wj,xh,wl,jm,Eng.distinct,pos,wn,Eng.ren,wo,xi,wp,jo,wq,yg,xj,ws,wu,jp,frz,yx,yz,wv,List.lookup_cons,jq,zi,jr,js,List.range_succ,jt,xk,ju,xm,↓yh,↓yi,↓qt,↓y6,↓qu,↓qa,↓yj,↓yk,↓qv,↓qw,↓qx,↓qy,↓qb,↓qz,qc,ww,xn,jv,jw,yl,qd,qe,zj,wx,y7,jx,xp,xq,keq,y8,wy,qf,y9,ym,xr,jy,jz,xt,j0,wz,ja,j1,xu,xv,xw,jb,q5,q6,yn,q7,j2,Option.map_some,yo,qg,q8,q9,qh,ya,xx,yb,yp,yc,xy,w5,xz,x5,w6,jc,x6,Op.operands,Call.operands,yd,qi,w7,AObj.live]
  rw [aloop_list (l := withinV v)
    (S := fun pre suf => { env := [(2, .d (.int .i64 (deepL pre))), (6, .d (.rs 6 ((pre ++ suf).map encV))), (7, .d (.int .i64 ((pre ++ suf).length : Nat))), (8, .d (.int .i64 (pre.length : Nat)))], σ := [], dfs := [] })
    (R := fun pre suf => some (.exit 0, { env := [(2, .d (.int .i64 (deepL (pre ++ suf))))], σ := [], dfs := [] }))
    (hs := ?_) (h0 := ?_) (h1 := ?_)]
  rotate_left
  · simp -implicitDefEqProofs [deepL, IntWalk.i64_in,IntWalk.u64_in,IntWalk.u8_in,IntWalk.i32_in,IntWalk.u32_in,ye,zk,zm,qj,qk,qm,qn,zb,zc,zn,zp,zq,qo,zd,ze,zr,zt,zu,j3,x7,zw,zf,za,zx,qp,zy,zg,zz,z6,qq,zh,yf,qr,aop,yq,j4,j5,x8,x9,jd,j6,j7,wb,je,j8,yr,j9,wg,jf,jg,xa,xb,z7,jh,z8,ji,jj,yt,yu,xc,AV.one,wh,wi,aun,jk,xd,yw,afn,xe,Out.ren,xf,xg,jl,wj,xh,wl,jm,Eng.distinct,pos,wn,Eng.ren,wo,xi,wp,jo,wq,yg,xj,ws,wu,jp,frz,yx,yz,wv,List.lookup_cons,jq,zi,jr,js,List.range_succ,jt,xk,ju,xm,↓yh,↓yi,↓qt,↓y6,↓qu,↓qa,↓yj,↓yk,↓qv,↓qw,↓qx,↓qy,↓qb,↓qz,qc,ww,xn,jv,jw,yl,qd,qe,zj,wx,y7,jx,xp,xq,keq,y8,wy,qf,y9,ym,xr,jy,jz,xt,j0,wz,ja,j1,xu,xv,xw,jb,q5,q6,yn,q7,j2,Option.map_some,yo,qg,q8,q9,qh,ya,xx,yb,yp,yc,xy,w5,xz,x5,w6,jc,x6,Op.operands,Call.operands,yd,qi,w7,AObj.live]
  · intro pre hp
    simp -implicitDefEqProofs [mach_loop, IntWalk.i64_in,IntWalk.u64_in,IntWalk.u8_in,IntWalk.i32_in,IntWalk.u32_in,ye,zk,zm,qj,qk,qm,qn,zb,zc,zn,zp,zq,qo,zd,ze,zr,zt,zu,j3,x7,zw,zf,za,zx,qp,zy,zg,zz,z6,qq,zh,yf,qr,aop,yq,j4,j5,x8,x9,jd,j6,j7,wb,je,j8,yr,j9,wg,jf,jg,xa,xb,z7,jh,z8,ji,jj,yt,yu,xc,AV.one,wh,wi,aun,jk,xd,yw,afn,xe,Out.ren,xf,xg,jl,wj,xh,wl,jm,Eng.distinct,pos,wn,Eng.ren,wo,xi,wp,jo,wq,yg,xj,ws,wu,jp,frz,yx,yz,wv,List.lookup_cons,jq,zi,jr,js,List.range_succ,jt,xk,ju,xm,↓yh,↓yi,↓qt,↓y6,↓qu,↓qa,↓yj,↓yk,↓qv,↓qw,↓qx,↓qy,↓qb,↓qz,qc,ww,xn,jv,jw,yl,qd,qe,zj,wx,y7,jx,xp,xq,keq,y8,wy,qf,y9,ym,xr,jy,jz,xt,j0,wz,ja,j1,xu,xv,xw,jb,q5,q6,yn,q7,j2,Option.map_some,yo,qg,q8,q9,qh,ya,xx,yb,yp,yc,xy,w5,xz,x5,w6,jc,x6,Op.operands,Call.operands,yd,qi,w7,AObj.live]
  · intro pre x suf hp ih
    have hx : x.size < v.size := withinV_size (by rw [← hp]; simp)
    have h3 := h2 x hx
    have hlp : pre.length < (withinV v).length := by rw [← hp]; simp
    have hw2 : IntKind.i64.wrap ((pre.length : Nat) + 1) = (pre.length : Nat) + 1 := wrap64 (by omega) (by omega)
    have hsn := deepL_snoc x pre (by have := deepV_pos x; omega)
    simp -implicitDefEqProofs [mach_loop, hw2, h3, encV_eq, mid_lt, IntWalk.i64_in,IntWalk.u64_in,IntWalk.u8_in,IntWalk.i32_in,IntWalk.u32_in,ye,zk,zm,qj,qk,qm,qn,zb,zc,zn,zp,zq,qo,zd,ze,zr,zt,zu,j3,x7,zw,zf,za,zx,qp,zy,zg,zz,z6,qq,zh,yf,qr,aop,yq,j4,j5,x8,x9,jd,j6,j7,wb,je,j8,yr,j9,wg,jf,jg,xa,xb,z7,jh,z8,ji,jj,yt,yu,xc,AV.one,wh,wi,aun,jk,xd,yw,afn,xe,Out.ren,xf,xg,jl,wj,xh,wl,jm,Eng.distinct,pos,wn,Eng.ren,wo,xi,wp,jo,wq,yg,xj,ws,wu,jp,frz,yx,yz,wv,List.lookup_cons,jq,zi,jr,js,List.range_succ,jt,xk,ju,xm,↓yh,↓yi,↓qt,↓y6,↓qu,↓qa,↓yj,↓yk,↓qv,↓qw,↓qx,↓qy,↓qb,↓qz,qc,ww,xn,jv,jw,yl,qd,qe,zj,wx,y7,jx,xp,xq,keq,y8,wy,qf,y9,ym,xr,jy,jz,xt,j0,wz,ja,j1,xu,xv,xw,jb,q5,q6,yn,q7,j2,Option.map_some,yo,qg,q8,q9,qh,ya,xx,yb,yp,yc,xy,w5,xz,x5,w6,jc,x6,Op.operands,Call.operands,yd,qi,w7,AObj.live]
    rw [ih _ (by simp -implicitDefEqProofs [hsn, encV_eq, IntWalk.i64_in,IntWalk.u64_in,IntWalk.u8_in,IntWalk.i32_in,IntWalk.u32_in,ye,zk,zm,qj,qk,qm,qn,zb,zc,zn,zp,zq,qo,zd,ze,zr,zt,zu,j3,x7,zw,zf,za,zx,qp,zy,zg,zz,z6,qq,zh,yf,qr,aop,yq,j4,j5,x8,x9,jd,j6,j7,wb,je,j8,yr,j9,wg,jf,jg,xa,xb,z7,jh,z8,ji,jj,yt,yu,xc,AV.one,wh,wi,aun,jk,xd,yw,afn,xe,Out.ren,xf,xg,jl,wj,xh,wl,jm,Eng.distinct,pos,wn,Eng.ren,wo,xi,wp,jo,wq,yg,xj,ws,wu,jp,frz,yx,yz,wv,List.lookup_cons,jq,zi,jr,js,List.range_succ,jt,xk,ju,xm,↓yh,↓yi,↓qt,↓y6,↓qu,↓qa,↓yj,↓yk,↓qv,↓qw,↓qx,↓qy,↓qb,↓qz,qc,ww,xn,jv,jw,yl,qd,qe,zj,wx,y7,jx,xp,xq,keq,y8,wy,qf,y9,ym,xr,jy,jz,xt,j0,wz,ja,j1,xu,xv,xw,jb,q5,q6,yn,q7,j2,Option.map_some,yo,qg,q8,q9,qh,ya,xx,yb,yp,yc,xy,w5,xz,x5,w6,jc,x6,Op.operands,Call.operands,yd,qi,w7,AObj.live] <;> omega)]
    simp
  simp -implicitDefEqProofs [R, hw, hd, mach_loop, IntWalk.i64_in,IntWalk.u64_in,IntWalk.u8_in,IntWalk.i32_in,IntWalk.u32_in,ye,zk,zm,qj,qk,qm,qn,zb,zc,zn,zp,zq,qo,zd,ze,zr,zt,zu,j3,x7,zw,zf,za,zx,qp,zy,zg,zz,z6,qq,zh,yf,qr,aop,yq,j4,j5,x8,x9,jd,j6,j7,wb,je,j8,yr,j9,wg,jf,jg,xa,xb,z7,jh,z8,ji,jj,yt,yu,xc,AV.one,wh,wi,aun,jk,xd,yw,afn,xe,Out.ren,xf,xg,jl,wj,xh,wl,jm,Eng.distinct,pos,wn,Eng.ren,wo,xi,wp,jo,wq,yg,xj,ws,wu,jp,frz,yx,yz,wv,List.lookup_cons,jq,zi,jr,js,List.range_succ,jt,xk,ju,xm,↓yh,↓yi,↓qt,↓y6,↓qu,↓qa,↓yj,↓yk,↓qv,↓qw,↓qx,↓qy,↓qb,↓qz,qc,ww,xn,jv,jw,yl,qd,qe,zj,wx,y7,jx,xp,xq,keq,y8,wy,qf,y9,ym,xr,jy,jz,xt,j0,wz,ja,j1,xu,xv,xw,jb,q5,q6,yn,q7,j2,Option.map_some,yo,qg,q8,q9,qh,ya,xx,yb,yp,yc,xy,w5,xz,x5,w6,jc,x6,Op.operands,Call.operands,yd,qi,w7,AObj.live]
end Go.Proofs.YtblejchodicaoaaGreatDoor.Eng
