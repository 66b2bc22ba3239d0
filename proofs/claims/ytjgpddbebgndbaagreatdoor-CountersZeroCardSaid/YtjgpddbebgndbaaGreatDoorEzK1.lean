/- Closed calls of the program at the two qualifiers of the examples. No conditions. -/
import Derived.Test.YtjgpddbebgndbaaGreatDoorEzI
set_option linter.unusedVariables false
set_option maxRecDepth 1000000
namespace Go.Ev
open Go Go.Proofs
def q_qualifiers_ID_fh_qualifiers_ID : FnH := ⟨[], []⟩
def q_qualifiers_ID_fh_oids_Of : FnH := ⟨[], []⟩
def q_qualifiers_ID_fh_oids_Check : FnH := ⟨[(6, ⟨[false, false, false, false, false, false, false, false, false, false, false, false, false, false, false, false, false, false, false, false, false, false, false, false, false, false, false, false, false, false, false, false, false, false, false, false, false, false, true, true, true, false, false, false, false, false, false], [(38, 1)], none⟩)], []⟩
theorem q_qualifiers_ID_en_qualifiers_ID : Enters Tryz.prog 94 := ⟨Tryz.f94, Tryz.func94, by kernel_rfl, by kernel_rfl⟩
theorem q_qualifiers_ID_en_oids_Of : Enters Tryz.prog 111 := ⟨Tryz.f111, Tryz.func111, by kernel_rfl, by kernel_rfl⟩
theorem q_qualifiers_ID_en_oids_Check : Enters Tryz.prog 58 := ⟨Tryz.f58, Tryz.func58, by kernel_rfl, by kernel_rfl⟩
noncomputable def q_qualifiers_ID_H : Hints := ⟨[], [(94, Tryz.f94, q_qualifiers_ID_fh_qualifiers_ID), (111, Tryz.f111, q_qualifiers_ID_fh_oids_Of), (58, Tryz.f58, q_qualifiers_ID_fh_oids_Check)], [156, 158, 159, 161, 116]⟩
theorem q_qualifiers_ID_sound {m n : Nat} {ds : List D} {d : D} (h : funD Tryz.prog q_qualifiers_ID_H m n q_qualifiers_ID_fh_qualifiers_ID Tryz.f94 ds = some d) : DataSem Tryz.prog 94 ds d := data_sound (H := q_qualifiers_ID_H) SpOk.nil mixed (InlOk.cons Tryz.func94 q_qualifiers_ID_en_qualifiers_ID (InlOk.cons Tryz.func111 q_qualifiers_ID_en_oids_Of (InlOk.cons Tryz.func58 q_qualifiers_ID_en_oids_Check InlOk.nil))) Tryz.func94 q_qualifiers_ID_en_qualifiers_ID h
def q_qualifiers_ID_a0 : List D := [(D.v (.int .u8 (1 : Int)))]
def q_qualifiers_ID_r0 : D := (D.agg [(D.v (.int .u8 (9 : Int))), (D.v (.int .u32 (1 : Int))), (D.v (.int .u32 (3 : Int))), (D.v (.int .u32 (6 : Int))), (D.v (.int .u32 (1 : Int))), (D.v (.int .u32 (5 : Int))), (D.v (.int .u32 (5 : Int))), (D.v (.int .u32 (7 : Int))), (D.v (.int .u32 (2 : Int))), (D.v (.int .u32 (1 : Int))), (D.v (.int .u32 (0 : Int))), (D.v (.int .u32 (0 : Int))), (D.v (.int .u32 (0 : Int))), (D.v (.int .u32 (0 : Int))), (D.v (.int .u32 (0 : Int))), (D.v (.int .u32 (0 : Int))), (D.v (.int .u32 (0 : Int)))])
def q_qualifiers_ID_a1 : List D := [(D.v (.int .u8 (2 : Int)))]
def q_qualifiers_ID_r1 : D := (D.agg [(D.v (.int .u8 (9 : Int))), (D.v (.int .u32 (1 : Int))), (D.v (.int .u32 (3 : Int))), (D.v (.int .u32 (6 : Int))), (D.v (.int .u32 (1 : Int))), (D.v (.int .u32 (5 : Int))), (D.v (.int .u32 (5 : Int))), (D.v (.int .u32 (7 : Int))), (D.v (.int .u32 (2 : Int))), (D.v (.int .u32 (2 : Int))), (D.v (.int .u32 (0 : Int))), (D.v (.int .u32 (0 : Int))), (D.v (.int .u32 (0 : Int))), (D.v (.int .u32 (0 : Int))), (D.v (.int .u32 (0 : Int))), (D.v (.int .u32 (0 : Int))), (D.v (.int .u32 (0 : Int)))])
theorem q_qualifiers_ID_e0 : funD Tryz.prog q_qualifiers_ID_H 100000 60 q_qualifiers_ID_fh_qualifiers_ID Tryz.f94 q_qualifiers_ID_a0 = some q_qualifiers_ID_r0 := by kernel_rfl
theorem q_qualifiers_ID_e1 : funD Tryz.prog q_qualifiers_ID_H 100000 60 q_qualifiers_ID_fh_qualifiers_ID Tryz.f94 q_qualifiers_ID_a1 = some q_qualifiers_ID_r1 := by kernel_rfl
def sp_qualifiers_ID (ds : List D) : Option D := if isT q_qualifiers_ID_a0 ds then some q_qualifiers_ID_r0 else (if isT q_qualifiers_ID_a1 ds then some q_qualifiers_ID_r1 else (none))
theorem ds_qualifiers_ID : ∀ ds d, sp_qualifiers_ID ds = some d → DataSem Tryz.prog 94 ds d := by
  intro ds d h
  unfold sp_qualifiers_ID at h
  split at h
  · rename_i ha; obtain rfl := isT_eq ha; cases h; exact q_qualifiers_ID_sound q_qualifiers_ID_e0
  split at h
  · rename_i ha; obtain rfl := isT_eq ha; cases h; exact q_qualifiers_ID_sound q_qualifiers_ID_e1
  cases h

def q_charstrings_Element_fh_charstrings_Element : FnH := ⟨[], []⟩
def q_charstrings_Element_fh_charstrings_Put : FnH := ⟨[(6, ⟨[false, false, false, false, true, false, true, false, false, false, false, false, false, false, false, false, false, false, false, true, false, false, false, false, false, false, false, false, false, false], [(6, 1)], none⟩)], []⟩
def q_charstrings_Element_fh_charstrings_check : FnH := ⟨[], []⟩
def q_charstrings_Element_fh_charstrings_find : FnH := ⟨[], []⟩
def q_charstrings_Element_fh_charstrings_kinds : FnH := ⟨[], []⟩
def q_charstrings_Element_fh_charstrings_between : FnH := ⟨[], []⟩
def q_charstrings_Element_fh_charstrings_between_1 : FnH := ⟨[], []⟩
def q_charstrings_Element_fh_utf8_AppendRune : FnH := ⟨[], []⟩
def q_charstrings_Element_fh_utf8_appendRuneNonASCII : FnH := ⟨[], []⟩
def q_charstrings_Element_fh_charstrings_printable : FnH := ⟨[], []⟩
def q_charstrings_Element_fh_strings_ContainsRune : FnH := ⟨[], []⟩
def q_charstrings_Element_fh_strings_IndexRune : FnH := ⟨[(38, ⟨[false, false, false, false, false, false, false, false, false, false, false, false, false, false, false, false, false, false, false, false, false, false, false, false, false, false, false, false, false, false, false, false, false, false, false, false, false, false, false, false, false, false, false, false, false, false, false, false, false, false, false, false, false, false, false, false, false, false, false, false, false, false, false, false, false, false, false, false, false, false, false, false, false, false, false, false, false, false, false, false, false, false, false, false, false, false, false, false, false, false, false, false, false, false, false, false, false, false, false, false, false, false, false, false, false, false, false, false, false, false, false, false, false, false, false, false, false, false, false, false, false, false, false, false, false, false, false, false, false, false, false, false, false, false, false, false, false, false, false, false, false, false, false, false, false, false, false, false, false, false, false, false, false, false, false, false, false, false, false, false, false, false, false, false, false, false, false, false, false, false, false, false, false, false, false, true, false, false, false, false, false, false, false, false, false, false, false], [], none⟩), (5, ⟨[true, true, false, false, false, false, false, true, true, true, true, false, false, false, false, false, false, false, false, false, false, false, false, false, false, false, false, false, false, false, false, false, false, false, false, false, false, false, false, false, false, false, false, false, false, false, false, false, false, false, false, false, false, false, false, false, false, false, false, false, false, false, false, false, false, false, false, false, false, false, false, false, false, false, false, false, false, false, false, false, false, false, false, false, false, false, false, false, false, false, false, false, false, false, false, false, false, false, false, false, false, false, false, false, false, false, false, false, false, false, false, false, false, false, false, false, false, false, false, false, false, false, false, false, false, false, false, false, false, false, false, false, false, false, false, false, false, false, false, false, false, false, false, false, false, false, false, false, false, false, false, false, false, false, false, false, false, false, false, false, false, false, false, false, false, false, false, false, false, false, false, false, false, false, false, false, false, false, false, false, false, false, false, false, false, false, false], [], none⟩), (12, ⟨[true, true, false, false, false, false, false, true, true, true, true, false, true, false, false, false, false, false, false, false, false, false, false, false, false, false, false, false, false, false, false, false, false, false, false, false, false, false, false, false, false, false, false, false, false, false, false, false, false, false, false, false, false, false, false, false, false, false, false, false, false, false, false, false, false, false, false, false, false, false, false, false, false, false, false, false, false, false, false, false, false, false, false, false, false, false, false, false, false, false, false, false, false, false, false, false, false, false, false, false, false, false, false, false, false, false, false, false, false, false, false, false, false, false, false, false, false, false, false, false, false, false, false, false, false, false, false, false, false, false, false, false, false, false, false, false, false, false, false, false, false, false, false, false, false, false, false, false, false, false, false, false, false, false, false, false, false, false, false, false, false, false, false, false, false, false, false, false, false, false, false, false, false, false, false, false, false, false, false, false, false, false, false, false, false, false, false], [], none⟩), (25, ⟨[true, false, false, false, false, false, false, true, true, true, false, false, false, false, true, true, false, false, false, false, false, false, false, false, false, false, false, false, false, false, false, false, false, false, false, false, false, false, false, false, false, false, false, false, false, false, false, false, false, false, false, false, false, false, false, false, false, false, false, false, false, false, false, false, false, false, false, false, false, false, false, false, false, false, false, false, false, false, false, false, false, false, false, false, false, false, false, false, false, false, false, false, false, false, false, false, false, false, false, false, false, false, false, false, false, false, false, false, false, false, false, false, false, false, false, false, false, false, false, false, false, false, false, false, false, false, false, false, false, false, false, false, false, false, false, false, false, false, false, false, false, false, false, false, false, false, false, false, false, false, false, false, false, false, false, false, false, false, false, false, false, false, false, false, false, false, false, false, false, false, false, false, false, false, false, false, false, false, false, false, false, false, false, false, false, false, false], [], none⟩), (29, ⟨[true, false, false, false, false, false, false, true, true, true, false, false, false, false, true, true, true, false, false, false, false, false, false, false, false, false, false, false, false, false, false, false, false, false, false, false, false, false, false, false, false, false, false, false, false, false, false, false, false, false, false, false, false, false, false, false, false, false, false, false, false, false, false, false, false, false, false, false, false, false, false, false, false, false, false, false, false, false, false, false, false, false, false, false, false, false, false, false, false, false, false, false, false, false, false, false, false, false, false, false, false, false, false, false, false, false, false, false, false, false, false, false, false, false, false, false, false, false, false, false, false, false, false, false, false, false, false, false, false, false, false, false, false, false, false, false, false, false, false, false, false, false, false, false, false, false, false, false, false, false, false, false, false, false, false, false, false, false, false, false, false, false, false, false, false, false, false, false, false, false, false, false, false, false, false, false, false, false, false, false, false, false, false, false, false, false, false], [], none⟩)], []⟩
def q_charstrings_Element_fh_strings_IndexByte : FnH := ⟨[], []⟩
def q_charstrings_Element_fh_stringslite_IndexByte : FnH := ⟨[], []⟩
def q_charstrings_Element_fh_utf8_ValidRune : FnH := ⟨[], []⟩
def q_charstrings_Element_fh_bytealg_Cutover : FnH := ⟨[], []⟩
def q_charstrings_Element_fh_charstrings_one : FnH := ⟨[], []⟩
def q_charstrings_Element_fh_charstrings_two : FnH := ⟨[], []⟩
def q_charstrings_Element_fh_charstrings_find_1 : FnH := ⟨[], []⟩
def q_charstrings_Element_fh_slices_IndexFunc_charstrings_kind_charstrings_kind : FnH := ⟨[(2, ⟨[true, true, false, false, false, false, false, true, true, false, false, false, false, false, false, false, false, false, false], [], none⟩)], []⟩
def q_charstrings_Element_fh_charstrings_kind_all : FnH := ⟨[(4, ⟨[false, false, true, false, false, false, false, false, false, false, false, true, false, false, false, false, false, false, false, false], [], none⟩)], []⟩
def q_charstrings_Element_fh_utf8_ValidString : FnH := ⟨[(1, ⟨[true, false, false, false, false, false, false, false, false, false, false, false, false, false, false, false, false, false, false, false, false, false, false, false, false, false, false, false, false, false, false, false, false, false, false, false, false, false, false, false, false, false, false, false, false, false, false, false, false, false, false, false, false, false, false, false, false, false, false, false, false, false, false, false, false, false, false, false, false, false, false, false, false, false, false, false, false, false, false, false, false, false, false, false, false, false, false, false, false, false, false, false, false, false, false, false, false, false, false, false, false, false, false, false, false, false, false, false, false, false, false, false, false, false, false, false, false, false, false, false, false, false, false, false, false, false, false, false, false, false, false, false, false, false, false, false, false, false, false, false, false, false, false, false, false, false, false, false, false, false, false, false, false, false, false, false, false, false, false, false, false, false, false, false, false, false, false, false, false], [], none⟩), (9, ⟨[true, false, false, false, false, false, false, false, false, false, false, false, false, false, false, false, false, false, false, false, false, false, false, false, false, false, false, false, false, false, false, false, false, false, false, false, false, false, false, false, false, false, false, false, false, false, false, false, false, false, false, false, false, false, false, false, false, false, false, false, false, false, false, false, false, false, false, false, false, false, false, false, false, false, false, false, false, false, false, false, false, false, false, false, false, false, false, false, false, false, false, false, false, false, false, false, false, false, false, false, false, false, false, false, false, false, false, false, false, false, false, false, false, false, false, false, false, false, false, false, false, false, false, false, false, false, false, false, false, false, false, false, false, false, false, false, false, false, false, false, false, false, false, false, false, false, false, false, false, false, false, false, false, false, false, false, false, false, false, false, false, false, false, false, false, false, false, false, false], [], none⟩)], []⟩
def q_charstrings_Element_fh_utf8_word_string : FnH := ⟨[], []⟩
def q_charstrings_Element_fh_slices_Clip_byte_byte : FnH := ⟨[], []⟩
theorem q_charstrings_Element_en_charstrings_Element : Enters Tryz.prog 118 := ⟨Tryz.f118, Tryz.func118, by kernel_rfl, by kernel_rfl⟩
theorem q_charstrings_Element_en_charstrings_Put : Enters Tryz.prog 132 := ⟨Tryz.f132, Tryz.func132, by kernel_rfl, by kernel_rfl⟩
theorem q_charstrings_Element_en_charstrings_check : Enters Tryz.prog 142 := ⟨Tryz.f142, Tryz.func142, by kernel_rfl, by kernel_rfl⟩
theorem q_charstrings_Element_en_charstrings_find : Enters Tryz.prog 149 := ⟨Tryz.f149, Tryz.func149, by kernel_rfl, by kernel_rfl⟩
theorem q_charstrings_Element_en_charstrings_kinds : Enters Tryz.prog 152 := ⟨Tryz.f152, Tryz.func152, by kernel_rfl, by kernel_rfl⟩
theorem q_charstrings_Element_en_charstrings_between : Enters Tryz.prog 155 := ⟨Tryz.f155, Tryz.func155, by kernel_rfl, by kernel_rfl⟩
theorem q_charstrings_Element_en_charstrings_between_1 : Enters Tryz.prog 160 := ⟨Tryz.f160, Tryz.func160, by kernel_rfl, by kernel_rfl⟩
theorem q_charstrings_Element_en_utf8_AppendRune : Enters Tryz.prog 156 := ⟨Tryz.f156, Tryz.func156, by kernel_rfl, by kernel_rfl⟩
theorem q_charstrings_Element_en_utf8_appendRuneNonASCII : Enters Tryz.prog 161 := ⟨Tryz.f161, Tryz.func161, by kernel_rfl, by kernel_rfl⟩
theorem q_charstrings_Element_en_charstrings_printable : Enters Tryz.prog 157 := ⟨Tryz.f157, Tryz.func157, by kernel_rfl, by kernel_rfl⟩
theorem q_charstrings_Element_en_strings_ContainsRune : Enters Tryz.prog 162 := ⟨Tryz.f162, Tryz.func162, by kernel_rfl, by kernel_rfl⟩
theorem q_charstrings_Element_en_strings_IndexRune : Enters Tryz.prog 163 := ⟨Tryz.f163, Tryz.func163, by kernel_rfl, by kernel_rfl⟩
theorem q_charstrings_Element_en_strings_IndexByte : Enters Tryz.prog 164 := ⟨Tryz.f164, Tryz.func164, by kernel_rfl, by kernel_rfl⟩
theorem q_charstrings_Element_en_stringslite_IndexByte : Enters Tryz.prog 168 := ⟨Tryz.f168, Tryz.func168, by kernel_rfl, by kernel_rfl⟩
theorem q_charstrings_Element_en_utf8_ValidRune : Enters Tryz.prog 165 := ⟨Tryz.f165, Tryz.func165, by kernel_rfl, by kernel_rfl⟩
theorem q_charstrings_Element_en_bytealg_Cutover : Enters Tryz.prog 166 := ⟨Tryz.f166, Tryz.func166, by kernel_rfl, by kernel_rfl⟩
theorem q_charstrings_Element_en_charstrings_one : Enters Tryz.prog 158 := ⟨Tryz.f158, Tryz.func158, by kernel_rfl, by kernel_rfl⟩
theorem q_charstrings_Element_en_charstrings_two : Enters Tryz.prog 159 := ⟨Tryz.f159, Tryz.func159, by kernel_rfl, by kernel_rfl⟩
theorem q_charstrings_Element_en_charstrings_find_1 : Enters Tryz.prog 154 := ⟨Tryz.f154, Tryz.func154, by kernel_rfl, by kernel_rfl⟩
theorem q_charstrings_Element_en_slices_IndexFunc_charstrings_kind_charstrings_kind : Enters Tryz.prog 153 := ⟨Tryz.f153, Tryz.func153, by kernel_rfl, by kernel_rfl⟩
theorem q_charstrings_Element_en_charstrings_kind_all : Enters Tryz.prog 150 := ⟨Tryz.f150, Tryz.func150, by kernel_rfl, by kernel_rfl⟩
theorem q_charstrings_Element_en_utf8_ValidString : Enters Tryz.prog 86 := ⟨Tryz.f86, Tryz.func86, by kernel_rfl, by kernel_rfl⟩
theorem q_charstrings_Element_en_utf8_word_string : Enters Tryz.prog 97 := ⟨Tryz.f97, Tryz.func97, by kernel_rfl, by kernel_rfl⟩
theorem q_charstrings_Element_en_slices_Clip_byte_byte : Enters Tryz.prog 103 := ⟨Tryz.f103, Tryz.func103, by kernel_rfl, by kernel_rfl⟩
noncomputable def q_charstrings_Element_H : Hints := ⟨[], [(118, Tryz.f118, q_charstrings_Element_fh_charstrings_Element), (132, Tryz.f132, q_charstrings_Element_fh_charstrings_Put), (142, Tryz.f142, q_charstrings_Element_fh_charstrings_check), (149, Tryz.f149, q_charstrings_Element_fh_charstrings_find), (152, Tryz.f152, q_charstrings_Element_fh_charstrings_kinds), (155, Tryz.f155, q_charstrings_Element_fh_charstrings_between), (160, Tryz.f160, q_charstrings_Element_fh_charstrings_between_1), (156, Tryz.f156, q_charstrings_Element_fh_utf8_AppendRune), (161, Tryz.f161, q_charstrings_Element_fh_utf8_appendRuneNonASCII), (157, Tryz.f157, q_charstrings_Element_fh_charstrings_printable), (162, Tryz.f162, q_charstrings_Element_fh_strings_ContainsRune), (163, Tryz.f163, q_charstrings_Element_fh_strings_IndexRune), (164, Tryz.f164, q_charstrings_Element_fh_strings_IndexByte), (168, Tryz.f168, q_charstrings_Element_fh_stringslite_IndexByte), (165, Tryz.f165, q_charstrings_Element_fh_utf8_ValidRune), (166, Tryz.f166, q_charstrings_Element_fh_bytealg_Cutover), (158, Tryz.f158, q_charstrings_Element_fh_charstrings_one), (159, Tryz.f159, q_charstrings_Element_fh_charstrings_two), (154, Tryz.f154, q_charstrings_Element_fh_charstrings_find_1), (153, Tryz.f153, q_charstrings_Element_fh_slices_IndexFunc_charstrings_kind_charstrings_kind), (150, Tryz.f150, q_charstrings_Element_fh_charstrings_kind_all), (86, Tryz.f86, q_charstrings_Element_fh_utf8_ValidString), (97, Tryz.f97, q_charstrings_Element_fh_utf8_word_string), (103, Tryz.f103, q_charstrings_Element_fh_slices_Clip_byte_byte)], [156, 158, 159, 161, 116]⟩
theorem q_charstrings_Element_sound {m n : Nat} {ds : List D} {d : D} (h : funD Tryz.prog q_charstrings_Element_H m n q_charstrings_Element_fh_charstrings_Element Tryz.f118 ds = some d) : DataSem Tryz.prog 118 ds d := data_sound (H := q_charstrings_Element_H) SpOk.nil mixed (InlOk.cons Tryz.func118 q_charstrings_Element_en_charstrings_Element (InlOk.cons Tryz.func132 q_charstrings_Element_en_charstrings_Put (InlOk.cons Tryz.func142 q_charstrings_Element_en_charstrings_check (InlOk.cons Tryz.func149 q_charstrings_Element_en_charstrings_find (InlOk.cons Tryz.func152 q_charstrings_Element_en_charstrings_kinds (InlOk.cons Tryz.func155 q_charstrings_Element_en_charstrings_between (InlOk.cons Tryz.func160 q_charstrings_Element_en_charstrings_between_1 (InlOk.cons Tryz.func156 q_charstrings_Element_en_utf8_AppendRune (InlOk.cons Tryz.func161 q_charstrings_Element_en_utf8_appendRuneNonASCII (InlOk.cons Tryz.func157 q_charstrings_Element_en_charstrings_printable (InlOk.cons Tryz.func162 q_charstrings_Element_en_strings_ContainsRune (InlOk.cons Tryz.func163 q_charstrings_Element_en_strings_IndexRune (InlOk.cons Tryz.func164 q_charstrings_Element_en_strings_IndexByte (InlOk.cons Tryz.func168 q_charstrings_Element_en_stringslite_IndexByte (InlOk.cons Tryz.func165 q_charstrings_Element_en_utf8_ValidRune (InlOk.cons Tryz.func166 q_charstrings_Element_en_bytealg_Cutover (InlOk.cons Tryz.func158 q_charstrings_Element_en_charstrings_one (InlOk.cons Tryz.func159 q_charstrings_Element_en_charstrings_two (InlOk.cons Tryz.func154 q_charstrings_Element_en_charstrings_find_1 (InlOk.cons Tryz.func153 q_charstrings_Element_en_slices_IndexFunc_charstrings_kind_charstrings_kind (InlOk.cons Tryz.func150 q_charstrings_Element_en_charstrings_kind_all (InlOk.cons Tryz.func86 q_charstrings_Element_en_utf8_ValidString (InlOk.cons Tryz.func97 q_charstrings_Element_en_utf8_word_string (InlOk.cons Tryz.func103 q_charstrings_Element_en_slices_Clip_byte_byte InlOk.nil)))))))))))))))))))))))) Tryz.func118 q_charstrings_Element_en_charstrings_Element h
def q_charstrings_Element_a0 : List D := [(D.agg [(D.v (.int .u32 (12 : Int))), (D.v (.string (ByteArray.mk #[98])))])]
def q_charstrings_Element_r0 : D := (D.tup [(D.agg [(D.v (.int .u8 (0 : Int))), (D.v (.bool false)), (D.v (.int .u32 (12 : Int))), (D.list 1 (some 1) [(D.v (.int .u8 (98 : Int)))]), (D.list 0 (some 0) [])]), (D.v (.int .i64 (0 : Int)))])
theorem q_charstrings_Element_e0 : funD Tryz.prog q_charstrings_Element_H 100000 60 q_charstrings_Element_fh_charstrings_Element Tryz.f118 q_charstrings_Element_a0 = some q_charstrings_Element_r0 := by kernel_rfl
def sp_charstrings_Element (ds : List D) : Option D := if isT q_charstrings_Element_a0 ds then some q_charstrings_Element_r0 else (none)
theorem ds_charstrings_Element : ∀ ds d, sp_charstrings_Element ds = some d → DataSem Tryz.prog 118 ds d := by
  intro ds d h
  unfold sp_charstrings_Element at h
  split at h
  · rename_i ha; obtain rfl := isT_eq ha; cases h; exact q_charstrings_Element_sound q_charstrings_Element_e0
  cases h

def q_charstrings_Check_fh_charstrings_Check : FnH := ⟨[], []⟩
def q_charstrings_Check_fh_charstrings_check : FnH := ⟨[], []⟩
def q_charstrings_Check_fh_charstrings_find : FnH := ⟨[], []⟩
def q_charstrings_Check_fh_charstrings_kinds : FnH := ⟨[], []⟩
def q_charstrings_Check_fh_charstrings_between : FnH := ⟨[], []⟩
def q_charstrings_Check_fh_charstrings_between_1 : FnH := ⟨[], []⟩
def q_charstrings_Check_fh_utf8_AppendRune : FnH := ⟨[], []⟩
def q_charstrings_Check_fh_utf8_appendRuneNonASCII : FnH := ⟨[], []⟩
def q_charstrings_Check_fh_charstrings_printable : FnH := ⟨[], []⟩
def q_charstrings_Check_fh_strings_ContainsRune : FnH := ⟨[], []⟩
def q_charstrings_Check_fh_strings_IndexRune : FnH := ⟨[(38, ⟨[false, false, false, false, false, false, false, false, false, false, false, false, false, false, false, false, false, false, false, false, false, false, false, false, false, false, false, false, false, false, false, false, false, false, false, false, false, false, false, false, false, false, false, false, false, false, false, false, false, false, false, false, false, false, false, false, false, false, false, false, false, false, false, false, false, false, false, false, false, false, false, false, false, false, false, false, false, false, false, false, false, false, false, false, false, false, false, false, false, false, false, false, false, false, false, false, false, false, false, false, false, false, false, false, false, false, false, false, false, false, false, false, false, false, false, false, false, false, false, false, false, false, false, false, false, false, false, false, false, false, false, false, false, false, false, false, false, false, false, false, false, false, false, false, false, false, false, false, false, false, false, false, false, false, false, false, false, false, false, false, false, false, false, false, false, false, false, false, false, false, false, false, false, false, false, true, false, false, false, false, false, false, false, false, false, false, false], [], none⟩), (5, ⟨[true, true, false, false, false, false, false, true, true, true, true, false, false, false, false, false, false, false, false, false, false, false, false, false, false, false, false, false, false, false, false, false, false, false, false, false, false, false, false, false, false, false, false, false, false, false, false, false, false, false, false, false, false, false, false, false, false, false, false, false, false, false, false, false, false, false, false, false, false, false, false, false, false, false, false, false, false, false, false, false, false, false, false, false, false, false, false, false, false, false, false, false, false, false, false, false, false, false, false, false, false, false, false, false, false, false, false, false, false, false, false, false, false, false, false, false, false, false, false, false, false, false, false, false, false, false, false, false, false, false, false, false, false, false, false, false, false, false, false, false, false, false, false, false, false, false, false, false, false, false, false, false, false, false, false, false, false, false, false, false, false, false, false, false, false, false, false, false, false, false, false, false, false, false, false, false, false, false, false, false, false, false, false, false, false, false, false], [], none⟩), (12, ⟨[true, true, false, false, false, false, false, true, true, true, true, false, true, false, false, false, false, false, false, false, false, false, false, false, false, false, false, false, false, false, false, false, false, false, false, false, false, false, false, false, false, false, false, false, false, false, false, false, false, false, false, false, false, false, false, false, false, false, false, false, false, false, false, false, false, false, false, false, false, false, false, false, false, false, false, false, false, false, false, false, false, false, false, false, false, false, false, false, false, false, false, false, false, false, false, false, false, false, false, false, false, false, false, false, false, false, false, false, false, false, false, false, false, false, false, false, false, false, false, false, false, false, false, false, false, false, false, false, false, false, false, false, false, false, false, false, false, false, false, false, false, false, false, false, false, false, false, false, false, false, false, false, false, false, false, false, false, false, false, false, false, false, false, false, false, false, false, false, false, false, false, false, false, false, false, false, false, false, false, false, false, false, false, false, false, false, false], [], none⟩), (25, ⟨[true, false, false, false, false, false, false, true, true, true, false, false, false, false, true, true, false, false, false, false, false, false, false, false, false, false, false, false, false, false, false, false, false, false, false, false, false, false, false, false, false, false, false, false, false, false, false, false, false, false, false, false, false, false, false, false, false, false, false, false, false, false, false, false, false, false, false, false, false, false, false, false, false, false, false, false, false, false, false, false, false, false, false, false, false, false, false, false, false, false, false, false, false, false, false, false, false, false, false, false, false, false, false, false, false, false, false, false, false, false, false, false, false, false, false, false, false, false, false, false, false, false, false, false, false, false, false, false, false, false, false, false, false, false, false, false, false, false, false, false, false, false, false, false, false, false, false, false, false, false, false, false, false, false, false, false, false, false, false, false, false, false, false, false, false, false, false, false, false, false, false, false, false, false, false, false, false, false, false, false, false, false, false, false, false, false, false], [], none⟩), (29, ⟨[true, false, false, false, false, false, false, true, true, true, false, false, false, false, true, true, true, false, false, false, false, false, false, false, false, false, false, false, false, false, false, false, false, false, false, false, false, false, false, false, false, false, false, false, false, false, false, false, false, false, false, false, false, false, false, false, false, false, false, false, false, false, false, false, false, false, false, false, false, false, false, false, false, false, false, false, false, false, false, false, false, false, false, false, false, false, false, false, false, false, false, false, false, false, false, false, false, false, false, false, false, false, false, false, false, false, false, false, false, false, false, false, false, false, false, false, false, false, false, false, false, false, false, false, false, false, false, false, false, false, false, false, false, false, false, false, false, false, false, false, false, false, false, false, false, false, false, false, false, false, false, false, false, false, false, false, false, false, false, false, false, false, false, false, false, false, false, false, false, false, false, false, false, false, false, false, false, false, false, false, false, false, false, false, false, false, false], [], none⟩)], []⟩
def q_charstrings_Check_fh_strings_IndexByte : FnH := ⟨[], []⟩
def q_charstrings_Check_fh_stringslite_IndexByte : FnH := ⟨[], []⟩
def q_charstrings_Check_fh_utf8_ValidRune : FnH := ⟨[], []⟩
def q_charstrings_Check_fh_bytealg_Cutover : FnH := ⟨[], []⟩
def q_charstrings_Check_fh_charstrings_one : FnH := ⟨[], []⟩
def q_charstrings_Check_fh_charstrings_two : FnH := ⟨[], []⟩
def q_charstrings_Check_fh_charstrings_find_1 : FnH := ⟨[], []⟩
def q_charstrings_Check_fh_slices_IndexFunc_charstrings_kind_charstrings_kind : FnH := ⟨[(2, ⟨[true, true, false, false, false, false, false, true, true, false, false, false, false, false, false, false, false, false, false], [], none⟩)], []⟩
def q_charstrings_Check_fh_charstrings_kind_all : FnH := ⟨[(4, ⟨[false, false, true, false, false, false, false, false, false, false, false, true, false, false, false, false, false, false, false, false], [], none⟩)], []⟩
def q_charstrings_Check_fh_utf8_ValidString : FnH := ⟨[(1, ⟨[true, false, false, false, false, false, false, false, false, false, false, false, false, false, false, false, false, false, false, false, false, false, false, false, false, false, false, false, false, false, false, false, false, false, false, false, false, false, false, false, false, false, false, false, false, false, false, false, false, false, false, false, false, false, false, false, false, false, false, false, false, false, false, false, false, false, false, false, false, false, false, false, false, false, false, false, false, false, false, false, false, false, false, false, false, false, false, false, false, false, false, false, false, false, false, false, false, false, false, false, false, false, false, false, false, false, false, false, false, false, false, false, false, false, false, false, false, false, false, false, false, false, false, false, false, false, false, false, false, false, false, false, false, false, false, false, false, false, false, false, false, false, false, false, false, false, false, false, false, false, false, false, false, false, false, false, false, false, false, false, false, false, false, false, false, false, false, false, false], [], none⟩), (9, ⟨[true, false, false, false, false, false, false, false, false, false, false, false, false, false, false, false, false, false, false, false, false, false, false, false, false, false, false, false, false, false, false, false, false, false, false, false, false, false, false, false, false, false, false, false, false, false, false, false, false, false, false, false, false, false, false, false, false, false, false, false, false, false, false, false, false, false, false, false, false, false, false, false, false, false, false, false, false, false, false, false, false, false, false, false, false, false, false, false, false, false, false, false, false, false, false, false, false, false, false, false, false, false, false, false, false, false, false, false, false, false, false, false, false, false, false, false, false, false, false, false, false, false, false, false, false, false, false, false, false, false, false, false, false, false, false, false, false, false, false, false, false, false, false, false, false, false, false, false, false, false, false, false, false, false, false, false, false, false, false, false, false, false, false, false, false, false, false, false, false], [], none⟩)], []⟩
def q_charstrings_Check_fh_utf8_word_string : FnH := ⟨[], []⟩
theorem q_charstrings_Check_en_charstrings_Check : Enters Tryz.prog 130 := ⟨Tryz.f130, Tryz.func130, by kernel_rfl, by kernel_rfl⟩
theorem q_charstrings_Check_en_charstrings_check : Enters Tryz.prog 142 := ⟨Tryz.f142, Tryz.func142, by kernel_rfl, by kernel_rfl⟩
theorem q_charstrings_Check_en_charstrings_find : Enters Tryz.prog 149 := ⟨Tryz.f149, Tryz.func149, by kernel_rfl, by kernel_rfl⟩
theorem q_charstrings_Check_en_charstrings_kinds : Enters Tryz.prog 152 := ⟨Tryz.f152, Tryz.func152, by kernel_rfl, by kernel_rfl⟩
theorem q_charstrings_Check_en_charstrings_between : Enters Tryz.prog 155 := ⟨Tryz.f155, Tryz.func155, by kernel_rfl, by kernel_rfl⟩
theorem q_charstrings_Check_en_charstrings_between_1 : Enters Tryz.prog 160 := ⟨Tryz.f160, Tryz.func160, by kernel_rfl, by kernel_rfl⟩
theorem q_charstrings_Check_en_utf8_AppendRune : Enters Tryz.prog 156 := ⟨Tryz.f156, Tryz.func156, by kernel_rfl, by kernel_rfl⟩
theorem q_charstrings_Check_en_utf8_appendRuneNonASCII : Enters Tryz.prog 161 := ⟨Tryz.f161, Tryz.func161, by kernel_rfl, by kernel_rfl⟩
theorem q_charstrings_Check_en_charstrings_printable : Enters Tryz.prog 157 := ⟨Tryz.f157, Tryz.func157, by kernel_rfl, by kernel_rfl⟩
theorem q_charstrings_Check_en_strings_ContainsRune : Enters Tryz.prog 162 := ⟨Tryz.f162, Tryz.func162, by kernel_rfl, by kernel_rfl⟩
theorem q_charstrings_Check_en_strings_IndexRune : Enters Tryz.prog 163 := ⟨Tryz.f163, Tryz.func163, by kernel_rfl, by kernel_rfl⟩
theorem q_charstrings_Check_en_strings_IndexByte : Enters Tryz.prog 164 := ⟨Tryz.f164, Tryz.func164, by kernel_rfl, by kernel_rfl⟩
theorem q_charstrings_Check_en_stringslite_IndexByte : Enters Tryz.prog 168 := ⟨Tryz.f168, Tryz.func168, by kernel_rfl, by kernel_rfl⟩
theorem q_charstrings_Check_en_utf8_ValidRune : Enters Tryz.prog 165 := ⟨Tryz.f165, Tryz.func165, by kernel_rfl, by kernel_rfl⟩
theorem q_charstrings_Check_en_bytealg_Cutover : Enters Tryz.prog 166 := ⟨Tryz.f166, Tryz.func166, by kernel_rfl, by kernel_rfl⟩
theorem q_charstrings_Check_en_charstrings_one : Enters Tryz.prog 158 := ⟨Tryz.f158, Tryz.func158, by kernel_rfl, by kernel_rfl⟩
theorem q_charstrings_Check_en_charstrings_two : Enters Tryz.prog 159 := ⟨Tryz.f159, Tryz.func159, by kernel_rfl, by kernel_rfl⟩
theorem q_charstrings_Check_en_charstrings_find_1 : Enters Tryz.prog 154 := ⟨Tryz.f154, Tryz.func154, by kernel_rfl, by kernel_rfl⟩
theorem q_charstrings_Check_en_slices_IndexFunc_charstrings_kind_charstrings_kind : Enters Tryz.prog 153 := ⟨Tryz.f153, Tryz.func153, by kernel_rfl, by kernel_rfl⟩
theorem q_charstrings_Check_en_charstrings_kind_all : Enters Tryz.prog 150 := ⟨Tryz.f150, Tryz.func150, by kernel_rfl, by kernel_rfl⟩
theorem q_charstrings_Check_en_utf8_ValidString : Enters Tryz.prog 86 := ⟨Tryz.f86, Tryz.func86, by kernel_rfl, by kernel_rfl⟩
theorem q_charstrings_Check_en_utf8_word_string : Enters Tryz.prog 97 := ⟨Tryz.f97, Tryz.func97, by kernel_rfl, by kernel_rfl⟩
noncomputable def q_charstrings_Check_H : Hints := ⟨[], [(130, Tryz.f130, q_charstrings_Check_fh_charstrings_Check), (142, Tryz.f142, q_charstrings_Check_fh_charstrings_check), (149, Tryz.f149, q_charstrings_Check_fh_charstrings_find), (152, Tryz.f152, q_charstrings_Check_fh_charstrings_kinds), (155, Tryz.f155, q_charstrings_Check_fh_charstrings_between), (160, Tryz.f160, q_charstrings_Check_fh_charstrings_between_1), (156, Tryz.f156, q_charstrings_Check_fh_utf8_AppendRune), (161, Tryz.f161, q_charstrings_Check_fh_utf8_appendRuneNonASCII), (157, Tryz.f157, q_charstrings_Check_fh_charstrings_printable), (162, Tryz.f162, q_charstrings_Check_fh_strings_ContainsRune), (163, Tryz.f163, q_charstrings_Check_fh_strings_IndexRune), (164, Tryz.f164, q_charstrings_Check_fh_strings_IndexByte), (168, Tryz.f168, q_charstrings_Check_fh_stringslite_IndexByte), (165, Tryz.f165, q_charstrings_Check_fh_utf8_ValidRune), (166, Tryz.f166, q_charstrings_Check_fh_bytealg_Cutover), (158, Tryz.f158, q_charstrings_Check_fh_charstrings_one), (159, Tryz.f159, q_charstrings_Check_fh_charstrings_two), (154, Tryz.f154, q_charstrings_Check_fh_charstrings_find_1), (153, Tryz.f153, q_charstrings_Check_fh_slices_IndexFunc_charstrings_kind_charstrings_kind), (150, Tryz.f150, q_charstrings_Check_fh_charstrings_kind_all), (86, Tryz.f86, q_charstrings_Check_fh_utf8_ValidString), (97, Tryz.f97, q_charstrings_Check_fh_utf8_word_string)], [156, 158, 159, 161, 116]⟩
theorem q_charstrings_Check_sound {m n : Nat} {ds : List D} {d : D} (h : funD Tryz.prog q_charstrings_Check_H m n q_charstrings_Check_fh_charstrings_Check Tryz.f130 ds = some d) : DataSem Tryz.prog 130 ds d := data_sound (H := q_charstrings_Check_H) SpOk.nil mixed (InlOk.cons Tryz.func130 q_charstrings_Check_en_charstrings_Check (InlOk.cons Tryz.func142 q_charstrings_Check_en_charstrings_check (InlOk.cons Tryz.func149 q_charstrings_Check_en_charstrings_find (InlOk.cons Tryz.func152 q_charstrings_Check_en_charstrings_kinds (InlOk.cons Tryz.func155 q_charstrings_Check_en_charstrings_between (InlOk.cons Tryz.func160 q_charstrings_Check_en_charstrings_between_1 (InlOk.cons Tryz.func156 q_charstrings_Check_en_utf8_AppendRune (InlOk.cons Tryz.func161 q_charstrings_Check_en_utf8_appendRuneNonASCII (InlOk.cons Tryz.func157 q_charstrings_Check_en_charstrings_printable (InlOk.cons Tryz.func162 q_charstrings_Check_en_strings_ContainsRune (InlOk.cons Tryz.func163 q_charstrings_Check_en_strings_IndexRune (InlOk.cons Tryz.func164 q_charstrings_Check_en_strings_IndexByte (InlOk.cons Tryz.func168 q_charstrings_Check_en_stringslite_IndexByte (InlOk.cons Tryz.func165 q_charstrings_Check_en_utf8_ValidRune (InlOk.cons Tryz.func166 q_charstrings_Check_en_bytealg_Cutover (InlOk.cons Tryz.func158 q_charstrings_Check_en_charstrings_one (InlOk.cons Tryz.func159 q_charstrings_Check_en_charstrings_two (InlOk.cons Tryz.func154 q_charstrings_Check_en_charstrings_find_1 (InlOk.cons Tryz.func153 q_charstrings_Check_en_slices_IndexFunc_charstrings_kind_charstrings_kind (InlOk.cons Tryz.func150 q_charstrings_Check_en_charstrings_kind_all (InlOk.cons Tryz.func86 q_charstrings_Check_en_utf8_ValidString (InlOk.cons Tryz.func97 q_charstrings_Check_en_utf8_word_string InlOk.nil)))))))))))))))))))))) Tryz.func130 q_charstrings_Check_en_charstrings_Check h
def q_charstrings_Check_a0 : List D := [(D.agg [(D.v (.int .u32 (12 : Int))), (D.v (.string (ByteArray.mk #[98])))])]
def q_charstrings_Check_r0 : D := (D.v (.int .i64 (0 : Int)))
theorem q_charstrings_Check_e0 : funD Tryz.prog q_charstrings_Check_H 100000 60 q_charstrings_Check_fh_charstrings_Check Tryz.f130 q_charstrings_Check_a0 = some q_charstrings_Check_r0 := by kernel_rfl
def sp_charstrings_Check (ds : List D) : Option D := if isT q_charstrings_Check_a0 ds then some q_charstrings_Check_r0 else (none)
theorem ds_charstrings_Check : ∀ ds d, sp_charstrings_Check ds = some d → DataSem Tryz.prog 130 ds d := by
  intro ds d h
  unfold sp_charstrings_Check at h
  split at h
  · rename_i ha; obtain rfl := isT_eq ha; cases h; exact q_charstrings_Check_sound q_charstrings_Check_e0
  cases h

def q_charstrings_Length_fh_charstrings_Length : FnH := ⟨[], []⟩
def q_charstrings_Length_fh_utf8_RuneCountInString : FnH := ⟨[(2, ⟨[false, false, true, false, true, false, false, false, false, false], [], none⟩)], []⟩
theorem q_charstrings_Length_en_charstrings_Length : Enters Tryz.prog 131 := ⟨Tryz.f131, Tryz.func131, by kernel_rfl, by kernel_rfl⟩
theorem q_charstrings_Length_en_utf8_RuneCountInString : Enters Tryz.prog 143 := ⟨Tryz.f143, Tryz.func143, by kernel_rfl, by kernel_rfl⟩
noncomputable def q_charstrings_Length_H : Hints := ⟨[(130, sp_charstrings_Check)], [(131, Tryz.f131, q_charstrings_Length_fh_charstrings_Length), (143, Tryz.f143, q_charstrings_Length_fh_utf8_RuneCountInString)], [156, 158, 159, 161, 116]⟩
theorem q_charstrings_Length_sound {m n : Nat} {ds : List D} {d : D} (h : funD Tryz.prog q_charstrings_Length_H m n q_charstrings_Length_fh_charstrings_Length Tryz.f131 ds = some d) : DataSem Tryz.prog 131 ds d := data_sound (H := q_charstrings_Length_H) (SpOk.cons ds_charstrings_Check SpOk.nil) mixed (InlOk.cons Tryz.func131 q_charstrings_Length_en_charstrings_Length (InlOk.cons Tryz.func143 q_charstrings_Length_en_utf8_RuneCountInString InlOk.nil)) Tryz.func131 q_charstrings_Length_en_charstrings_Length h
def q_charstrings_Length_a0 : List D := [(D.agg [(D.v (.int .u32 (12 : Int))), (D.v (.string (ByteArray.mk #[98])))])]
def q_charstrings_Length_r0 : D := (D.v (.int .i64 (1 : Int)))
theorem q_charstrings_Length_e0 : funD Tryz.prog q_charstrings_Length_H 100000 60 q_charstrings_Length_fh_charstrings_Length Tryz.f131 q_charstrings_Length_a0 = some q_charstrings_Length_r0 := by kernel_rfl
def sp_charstrings_Length (ds : List D) : Option D := if isT q_charstrings_Length_a0 ds then some q_charstrings_Length_r0 else (none)
theorem ds_charstrings_Length : ∀ ds d, sp_charstrings_Length ds = some d → DataSem Tryz.prog 131 ds d := by
  intro ds d h
  unfold sp_charstrings_Length at h
  split at h
  · rename_i ha; obtain rfl := isT_eq ha; cases h; exact q_charstrings_Length_sound q_charstrings_Length_e0
  cases h

def q_tags_Check_fh_tags_Check : FnH := ⟨[], []⟩
theorem q_tags_Check_en_tags_Check : Enters Tryz.prog 138 := ⟨Tryz.f138, Tryz.func138, by kernel_rfl, by kernel_rfl⟩
noncomputable def q_tags_Check_H : Hints := ⟨[], [(138, Tryz.f138, q_tags_Check_fh_tags_Check)], [156, 158, 159, 161, 116]⟩
theorem q_tags_Check_sound {m n : Nat} {ds : List D} {d : D} (h : funD Tryz.prog q_tags_Check_H m n q_tags_Check_fh_tags_Check Tryz.f138 ds = some d) : DataSem Tryz.prog 138 ds d := data_sound (H := q_tags_Check_H) SpOk.nil mixed (InlOk.cons Tryz.func138 q_tags_Check_en_tags_Check InlOk.nil) Tryz.func138 q_tags_Check_en_tags_Check h
def q_tags_Check_a0 : List D := [(D.agg [(D.v (.int .u8 (0 : Int))), (D.v (.bool true)), (D.v (.int .u32 (16 : Int)))])]
def q_tags_Check_r0 : D := (D.v (.int .i64 (0 : Int)))
def q_tags_Check_a1 : List D := [(D.agg [(D.v (.int .u8 (0 : Int))), (D.v (.bool false)), (D.v (.int .u32 (6 : Int)))])]
def q_tags_Check_r1 : D := (D.v (.int .i64 (0 : Int)))
def q_tags_Check_a2 : List D := [(D.agg [(D.v (.int .u8 (0 : Int))), (D.v (.bool false)), (D.v (.int .u32 (22 : Int)))])]
def q_tags_Check_r2 : D := (D.v (.int .i64 (0 : Int)))
def q_tags_Check_a3 : List D := [(D.agg [(D.v (.int .u8 (0 : Int))), (D.v (.bool false)), (D.v (.int .u32 (12 : Int)))])]
def q_tags_Check_r3 : D := (D.v (.int .i64 (0 : Int)))
theorem q_tags_Check_e0 : funD Tryz.prog q_tags_Check_H 100000 60 q_tags_Check_fh_tags_Check Tryz.f138 q_tags_Check_a0 = some q_tags_Check_r0 := by kernel_rfl
theorem q_tags_Check_e1 : funD Tryz.prog q_tags_Check_H 100000 60 q_tags_Check_fh_tags_Check Tryz.f138 q_tags_Check_a1 = some q_tags_Check_r1 := by kernel_rfl
theorem q_tags_Check_e2 : funD Tryz.prog q_tags_Check_H 100000 60 q_tags_Check_fh_tags_Check Tryz.f138 q_tags_Check_a2 = some q_tags_Check_r2 := by kernel_rfl
theorem q_tags_Check_e3 : funD Tryz.prog q_tags_Check_H 100000 60 q_tags_Check_fh_tags_Check Tryz.f138 q_tags_Check_a3 = some q_tags_Check_r3 := by kernel_rfl
def sp_tags_Check (ds : List D) : Option D := if isT q_tags_Check_a0 ds then some q_tags_Check_r0 else (if isT q_tags_Check_a1 ds then some q_tags_Check_r1 else (if isT q_tags_Check_a2 ds then some q_tags_Check_r2 else (if isT q_tags_Check_a3 ds then some q_tags_Check_r3 else (none))))
theorem ds_tags_Check : ∀ ds d, sp_tags_Check ds = some d → DataSem Tryz.prog 138 ds d := by
  intro ds d h
  unfold sp_tags_Check at h
  split at h
  · rename_i ha; obtain rfl := isT_eq ha; cases h; exact q_tags_Check_sound q_tags_Check_e0
  split at h
  · rename_i ha; obtain rfl := isT_eq ha; cases h; exact q_tags_Check_sound q_tags_Check_e1
  split at h
  · rename_i ha; obtain rfl := isT_eq ha; cases h; exact q_tags_Check_sound q_tags_Check_e2
  split at h
  · rename_i ha; obtain rfl := isT_eq ha; cases h; exact q_tags_Check_sound q_tags_Check_e3
  cases h

def q_qualifiers_table_fh_qualifiers_table : FnH := ⟨[], []⟩
def q_qualifiers_table_fh_qualifiers_table_1 : FnH := ⟨[], []⟩
def q_qualifiers_table_fh_qualifiers_table_2 : FnH := ⟨[(4, ⟨[false, false, false, false, false, false, false, false, false, false, false, true, true, true, false, false, false, false, false, false, false, false, false, false], [(11, 1)], none⟩)], []⟩
def q_qualifiers_table_fh_qualifiers_table_3 : FnH := ⟨[], []⟩
def q_qualifiers_table_fh_slices_Clip_byte_byte : FnH := ⟨[], []⟩
def q_qualifiers_table_fh_qualifiers_table_4 : FnH := ⟨[], []⟩
def q_qualifiers_table_fh_qualifiers_notice : FnH := ⟨[], []⟩
def q_qualifiers_table_fh_qualifiers_displayed : FnH := ⟨[], []⟩
def q_qualifiers_table_fh_slices_Contains_uint32_uint32 : FnH := ⟨[], []⟩
def q_qualifiers_table_fh_slices_Index_uint32_uint32 : FnH := ⟨[(2, ⟨[true, true, false, false, false, false, false, true, true, false, false, false, false, false, false, false, false, false, false], [], none⟩)], []⟩
def q_qualifiers_table_fh_qualifiers_buildNotice : FnH := ⟨[(8, ⟨[false, true, true, false, true, true, false, true, false, false, false, false, false, false, false, false, false, false, false, false, false, false, false, false, false, false, false, false, false, true, true, true, false, false, false, false, false, false, false, false, false, false, false, false, false, false, false, false, false, false, false, false, false, false, false, false, false, false, false, false, false, false, false, false, false, false, false, false, false, false, false, false, false, false, false, false, false, false, false, false, false, false, false], [(29, 1)], none⟩)], []⟩
def q_qualifiers_table_fh_scalars_PutInt : FnH := ⟨[(3, ⟨[true, false, false, true, false, false, true, false, false, false, false, false, false, false, false, false, false, false, false, false, false, false, false, false, false], [], none⟩), (8, ⟨[false, false, false, false, false, true, false, false, false, false, false, false, false, false, false, false, false, false, false, false, false, false, false, false, false], [(5, 1)], none⟩)], []⟩
def q_qualifiers_table_fh_scalars_superfluous : FnH := ⟨[], []⟩
def q_qualifiers_table_fh_slices_Clip_api_Element_api_Element : FnH := ⟨[], []⟩
def q_qualifiers_table_fh_qualifiers_table_5 : FnH := ⟨[], []⟩
def q_qualifiers_table_fh_qualifiers_table_6 : FnH := ⟨[], []⟩
def q_qualifiers_table_fh_oids_Check : FnH := ⟨[(6, ⟨[false, false, false, false, false, false, false, false, false, false, false, false, false, false, false, false, false, false, false, false, false, false, false, false, false, false, false, false, false, false, false, false, false, false, false, false, false, false, true, true, true, false, false, false, false, false, false], [(38, 1)], none⟩)], []⟩
def q_qualifiers_table_fh_elements_Get : FnH := ⟨[], []⟩
def q_qualifiers_table_fh_elements_Next : FnH := ⟨[], []⟩
def q_qualifiers_table_fh_elements_Next_1 : FnH := ⟨[], []⟩
def q_qualifiers_table_fh_elements_reader_element : FnH := ⟨[(25, ⟨[true, true, true, true, false, false, false, false, true, false, false, false, false, false, true, false, false, false, false, false, false, false, false, false, false, false, false, false, false, false, false, false, false, false, false, false, false, false, false, false, false, false, false, false, false, false, false, false, false, false, false, false, false, false, false, false, false, false, false, false, false, false, false, false, false, false, false, false, false, false, false, false, false, false, false, false, false, false, false, false, false, false, false, false, false, false, false, false, false, false, false, false, false, false, false, false, false, false, false, false, false, false, false, false, false, false, false, false, false, false, false, false, false, false, false, false, false, false, false, false, false, false, false, false, false, false, false, false, false, false, false, false, false, false, false, false, false, false, false, false, false, false, false, false, false, false, false, false, false, false, false], [], none⟩)], []⟩
def q_qualifiers_table_fh_tags_Get : FnH := ⟨[], []⟩
def q_qualifiers_table_fh_tags_number : FnH := ⟨[(3, ⟨[true, false, true, true, false, false, false, false, false, false, false, false, false, false, false, false, false, false, false, false, false, false, false, false, false, false, false, false, false, false, false, false, false, false, false, false, false, false, false, false, false, false, false], [], none⟩)], []⟩
def q_qualifiers_table_fh_lengths_Get : FnH := ⟨[], []⟩
def q_qualifiers_table_fh_bytes_Clone : FnH := ⟨[], []⟩
def q_qualifiers_table_fh_qualifiers_table_7 : FnH := ⟨[], []⟩
theorem q_qualifiers_table_en_qualifiers_table : Enters Tryz.prog 92 := ⟨Tryz.f92, Tryz.func92, by kernel_rfl, by kernel_rfl⟩
theorem q_qualifiers_table_en_qualifiers_table_1 : Enters Tryz.prog 100 := ⟨Tryz.f100, Tryz.func100, by kernel_rfl, by kernel_rfl⟩
theorem q_qualifiers_table_en_qualifiers_table_2 : Enters Tryz.prog 101 := ⟨Tryz.f101, Tryz.func101, by kernel_rfl, by kernel_rfl⟩
theorem q_qualifiers_table_en_qualifiers_table_3 : Enters Tryz.prog 102 := ⟨Tryz.f102, Tryz.func102, by kernel_rfl, by kernel_rfl⟩
theorem q_qualifiers_table_en_slices_Clip_byte_byte : Enters Tryz.prog 103 := ⟨Tryz.f103, Tryz.func103, by kernel_rfl, by kernel_rfl⟩
theorem q_qualifiers_table_en_qualifiers_table_4 : Enters Tryz.prog 104 := ⟨Tryz.f104, Tryz.func104, by kernel_rfl, by kernel_rfl⟩
theorem q_qualifiers_table_en_qualifiers_notice : Enters Tryz.prog 105 := ⟨Tryz.f105, Tryz.func105, by kernel_rfl, by kernel_rfl⟩
theorem q_qualifiers_table_en_qualifiers_displayed : Enters Tryz.prog 117 := ⟨Tryz.f117, Tryz.func117, by kernel_rfl, by kernel_rfl⟩
theorem q_qualifiers_table_en_slices_Contains_uint32_uint32 : Enters Tryz.prog 129 := ⟨Tryz.f129, Tryz.func129, by kernel_rfl, by kernel_rfl⟩
theorem q_qualifiers_table_en_slices_Index_uint32_uint32 : Enters Tryz.prog 141 := ⟨Tryz.f141, Tryz.func141, by kernel_rfl, by kernel_rfl⟩
theorem q_qualifiers_table_en_qualifiers_buildNotice : Enters Tryz.prog 106 := ⟨Tryz.f106, Tryz.func106, by kernel_rfl, by kernel_rfl⟩
theorem q_qualifiers_table_en_scalars_PutInt : Enters Tryz.prog 119 := ⟨Tryz.f119, Tryz.func119, by kernel_rfl, by kernel_rfl⟩
theorem q_qualifiers_table_en_scalars_superfluous : Enters Tryz.prog 133 := ⟨Tryz.f133, Tryz.func133, by kernel_rfl, by kernel_rfl⟩
theorem q_qualifiers_table_en_slices_Clip_api_Element_api_Element : Enters Tryz.prog 120 := ⟨Tryz.f120, Tryz.func120, by kernel_rfl, by kernel_rfl⟩
theorem q_qualifiers_table_en_qualifiers_table_5 : Enters Tryz.prog 107 := ⟨Tryz.f107, Tryz.func107, by kernel_rfl, by kernel_rfl⟩
theorem q_qualifiers_table_en_qualifiers_table_6 : Enters Tryz.prog 108 := ⟨Tryz.f108, Tryz.func108, by kernel_rfl, by kernel_rfl⟩
theorem q_qualifiers_table_en_oids_Check : Enters Tryz.prog 58 := ⟨Tryz.f58, Tryz.func58, by kernel_rfl, by kernel_rfl⟩
theorem q_qualifiers_table_en_elements_Get : Enters Tryz.prog 109 := ⟨Tryz.f109, Tryz.func109, by kernel_rfl, by kernel_rfl⟩
theorem q_qualifiers_table_en_elements_Next : Enters Tryz.prog 121 := ⟨Tryz.f121, Tryz.func121, by kernel_rfl, by kernel_rfl⟩
theorem q_qualifiers_table_en_elements_Next_1 : Enters Tryz.prog 134 := ⟨Tryz.f134, Tryz.func134, by kernel_rfl, by kernel_rfl⟩
theorem q_qualifiers_table_en_elements_reader_element : Enters Tryz.prog 135 := ⟨Tryz.f135, Tryz.func135, by kernel_rfl, by kernel_rfl⟩
theorem q_qualifiers_table_en_tags_Get : Enters Tryz.prog 144 := ⟨Tryz.f144, Tryz.func144, by kernel_rfl, by kernel_rfl⟩
theorem q_qualifiers_table_en_tags_number : Enters Tryz.prog 151 := ⟨Tryz.f151, Tryz.func151, by kernel_rfl, by kernel_rfl⟩
theorem q_qualifiers_table_en_lengths_Get : Enters Tryz.prog 145 := ⟨Tryz.f145, Tryz.func145, by kernel_rfl, by kernel_rfl⟩
theorem q_qualifiers_table_en_bytes_Clone : Enters Tryz.prog 146 := ⟨Tryz.f146, Tryz.func146, by kernel_rfl, by kernel_rfl⟩
theorem q_qualifiers_table_en_qualifiers_table_7 : Enters Tryz.prog 110 := ⟨Tryz.f110, Tryz.func110, by kernel_rfl, by kernel_rfl⟩
noncomputable def q_qualifiers_table_H : Hints := ⟨[(94, sp_qualifiers_ID), (118, sp_charstrings_Element), (130, sp_charstrings_Check), (131, sp_charstrings_Length), (138, sp_tags_Check)], [(92, Tryz.f92, q_qualifiers_table_fh_qualifiers_table), (100, Tryz.f100, q_qualifiers_table_fh_qualifiers_table_1), (101, Tryz.f101, q_qualifiers_table_fh_qualifiers_table_2), (102, Tryz.f102, q_qualifiers_table_fh_qualifiers_table_3), (103, Tryz.f103, q_qualifiers_table_fh_slices_Clip_byte_byte), (104, Tryz.f104, q_qualifiers_table_fh_qualifiers_table_4), (105, Tryz.f105, q_qualifiers_table_fh_qualifiers_notice), (117, Tryz.f117, q_qualifiers_table_fh_qualifiers_displayed), (129, Tryz.f129, q_qualifiers_table_fh_slices_Contains_uint32_uint32), (141, Tryz.f141, q_qualifiers_table_fh_slices_Index_uint32_uint32), (106, Tryz.f106, q_qualifiers_table_fh_qualifiers_buildNotice), (119, Tryz.f119, q_qualifiers_table_fh_scalars_PutInt), (133, Tryz.f133, q_qualifiers_table_fh_scalars_superfluous), (120, Tryz.f120, q_qualifiers_table_fh_slices_Clip_api_Element_api_Element), (107, Tryz.f107, q_qualifiers_table_fh_qualifiers_table_5), (108, Tryz.f108, q_qualifiers_table_fh_qualifiers_table_6), (58, Tryz.f58, q_qualifiers_table_fh_oids_Check), (109, Tryz.f109, q_qualifiers_table_fh_elements_Get), (121, Tryz.f121, q_qualifiers_table_fh_elements_Next), (134, Tryz.f134, q_qualifiers_table_fh_elements_Next_1), (135, Tryz.f135, q_qualifiers_table_fh_elements_reader_element), (144, Tryz.f144, q_qualifiers_table_fh_tags_Get), (151, Tryz.f151, q_qualifiers_table_fh_tags_number), (145, Tryz.f145, q_qualifiers_table_fh_lengths_Get), (146, Tryz.f146, q_qualifiers_table_fh_bytes_Clone), (110, Tryz.f110, q_qualifiers_table_fh_qualifiers_table_7)], [156, 158, 159, 161, 116]⟩
theorem q_qualifiers_table_sound {m n : Nat} {ds : List D} {d : D} (h : funD Tryz.prog q_qualifiers_table_H m n q_qualifiers_table_fh_qualifiers_table Tryz.f92 ds = some d) : DataSem Tryz.prog 92 ds d := data_sound (H := q_qualifiers_table_H) (SpOk.cons ds_qualifiers_ID (SpOk.cons ds_charstrings_Element (SpOk.cons ds_charstrings_Check (SpOk.cons ds_charstrings_Length (SpOk.cons ds_tags_Check SpOk.nil))))) mixed (InlOk.cons Tryz.func92 q_qualifiers_table_en_qualifiers_table (InlOk.cons Tryz.func100 q_qualifiers_table_en_qualifiers_table_1 (InlOk.cons Tryz.func101 q_qualifiers_table_en_qualifiers_table_2 (InlOk.cons Tryz.func102 q_qualifiers_table_en_qualifiers_table_3 (InlOk.cons Tryz.func103 q_qualifiers_table_en_slices_Clip_byte_byte (InlOk.cons Tryz.func104 q_qualifiers_table_en_qualifiers_table_4 (InlOk.cons Tryz.func105 q_qualifiers_table_en_qualifiers_notice (InlOk.cons Tryz.func117 q_qualifiers_table_en_qualifiers_displayed (InlOk.cons Tryz.func129 q_qualifiers_table_en_slices_Contains_uint32_uint32 (InlOk.cons Tryz.func141 q_qualifiers_table_en_slices_Index_uint32_uint32 (InlOk.cons Tryz.func106 q_qualifiers_table_en_qualifiers_buildNotice (InlOk.cons Tryz.func119 q_qualifiers_table_en_scalars_PutInt (InlOk.cons Tryz.func133 q_qualifiers_table_en_scalars_superfluous (InlOk.cons Tryz.func120 q_qualifiers_table_en_slices_Clip_api_Element_api_Element (InlOk.cons Tryz.func107 q_qualifiers_table_en_qualifiers_table_5 (InlOk.cons Tryz.func108 q_qualifiers_table_en_qualifiers_table_6 (InlOk.cons Tryz.func58 q_qualifiers_table_en_oids_Check (InlOk.cons Tryz.func109 q_qualifiers_table_en_elements_Get (InlOk.cons Tryz.func121 q_qualifiers_table_en_elements_Next (InlOk.cons Tryz.func134 q_qualifiers_table_en_elements_Next_1 (InlOk.cons Tryz.func135 q_qualifiers_table_en_elements_reader_element (InlOk.cons Tryz.func144 q_qualifiers_table_en_tags_Get (InlOk.cons Tryz.func151 q_qualifiers_table_en_tags_number (InlOk.cons Tryz.func145 q_qualifiers_table_en_lengths_Get (InlOk.cons Tryz.func146 q_qualifiers_table_en_bytes_Clone (InlOk.cons Tryz.func110 q_qualifiers_table_en_qualifiers_table_7 InlOk.nil)))))))))))))))))))))))))) Tryz.func92 q_qualifiers_table_en_qualifiers_table h
def q_qualifiers_table_a0 : List D := []
def q_qualifiers_table_r0 : D := (D.agg [(D.v .nilFunc), (D.v .nilFunc), (D.v .nilFunc), (D.fn 100 []), (D.fn 101 []), (D.fn 102 []), (D.fn 104 []), (D.fn 105 []), (D.fn 106 []), (D.fn 107 []), (D.fn 108 []), (D.fn 110 [])])
theorem q_qualifiers_table_e0 : funD Tryz.prog q_qualifiers_table_H 100000 60 q_qualifiers_table_fh_qualifiers_table Tryz.f92 q_qualifiers_table_a0 = some q_qualifiers_table_r0 := by kernel_rfl
def sp_qualifiers_table (ds : List D) : Option D := if isT q_qualifiers_table_a0 ds then some q_qualifiers_table_r0 else (none)
theorem ds_qualifiers_table : ∀ ds d, sp_qualifiers_table ds = some d → DataSem Tryz.prog 92 ds d := by
  intro ds d h
  unfold sp_qualifiers_table at h
  split at h
  · rename_i ha; obtain rfl := isT_eq ha; cases h; exact q_qualifiers_table_sound q_qualifiers_table_e0
  cases h

def q_oids_Put_fh_oids_Put : FnH := ⟨[(8, ⟨[false, false, true, true, false, true, false, false, false, false, false, false, false, false, false, false, false, false, false, false, false, false, false, false, false, false, false, true, true, true, false, false, false, false, false, false, false, false, false, false, false, false, false], [(2, 1), (27, 1), (1002000, 1)], none⟩), (11, ⟨[false, false, true, true, false, true, false, false, false, false, false, false, false, false, false, false, false, false, false, false, false, false, false, false, false, false, false, true, true, true, false, false, false, false, false, false, false, false, false, false, false, false, false], [], none⟩)], []⟩
def q_oids_Put_fh_oids_Check : FnH := ⟨[(6, ⟨[false, false, false, false, false, false, false, false, false, false, false, false, false, false, false, false, false, false, false, false, false, false, false, false, false, false, false, false, false, false, false, false, false, false, false, false, false, false, true, true, true, false, false, false, false, false, false], [(38, 1)], none⟩)], []⟩
def q_oids_Put_fh_oids_arcs : FnH := ⟨[], []⟩
def q_oids_Put_fh_slices_Clone_uint32_uint32 : FnH := ⟨[], []⟩
def q_oids_Put_fh_oids_groups : FnH := ⟨[], []⟩
def q_oids_Put_fh_oids_groups_1 : FnH := ⟨[(1, ⟨[true, true, false, true, false, false, false, false, false, false, false, false, false, false, false, false, false, false, false, false, false, false, false, false, false, false, false, false, false, false, false], [], none⟩), (3, ⟨[true, true, false, true, false, false, false, false, false, false, false, false, false, false, false, false, false, false, false, false, false, false, false, false, false, false, false, false, false, false, false], [], none⟩)], []⟩
def q_oids_Put_fh_slices_Clip_byte_byte : FnH := ⟨[], []⟩
theorem q_oids_Put_en_oids_Put : Enters Tryz.prog 95 := ⟨Tryz.f95, Tryz.func95, by kernel_rfl, by kernel_rfl⟩
theorem q_oids_Put_en_oids_Check : Enters Tryz.prog 58 := ⟨Tryz.f58, Tryz.func58, by kernel_rfl, by kernel_rfl⟩
theorem q_oids_Put_en_oids_arcs : Enters Tryz.prog 69 := ⟨Tryz.f69, Tryz.func69, by kernel_rfl, by kernel_rfl⟩
theorem q_oids_Put_en_slices_Clone_uint32_uint32 : Enters Tryz.prog 112 := ⟨Tryz.f112, Tryz.func112, by kernel_rfl, by kernel_rfl⟩
theorem q_oids_Put_en_oids_groups : Enters Tryz.prog 113 := ⟨Tryz.f113, Tryz.func113, by kernel_rfl, by kernel_rfl⟩
theorem q_oids_Put_en_oids_groups_1 : Enters Tryz.prog 122 := ⟨Tryz.f122, Tryz.func122, by kernel_rfl, by kernel_rfl⟩
theorem q_oids_Put_en_slices_Clip_byte_byte : Enters Tryz.prog 103 := ⟨Tryz.f103, Tryz.func103, by kernel_rfl, by kernel_rfl⟩
noncomputable def q_oids_Put_H : Hints := ⟨[], [(95, Tryz.f95, q_oids_Put_fh_oids_Put), (58, Tryz.f58, q_oids_Put_fh_oids_Check), (69, Tryz.f69, q_oids_Put_fh_oids_arcs), (112, Tryz.f112, q_oids_Put_fh_slices_Clone_uint32_uint32), (113, Tryz.f113, q_oids_Put_fh_oids_groups), (122, Tryz.f122, q_oids_Put_fh_oids_groups_1), (103, Tryz.f103, q_oids_Put_fh_slices_Clip_byte_byte)], [156, 158, 159, 161, 116]⟩
theorem q_oids_Put_sound {m n : Nat} {ds : List D} {d : D} (h : funD Tryz.prog q_oids_Put_H m n q_oids_Put_fh_oids_Put Tryz.f95 ds = some d) : DataSem Tryz.prog 95 ds d := data_sound (H := q_oids_Put_H) SpOk.nil mixed (InlOk.cons Tryz.func95 q_oids_Put_en_oids_Put (InlOk.cons Tryz.func58 q_oids_Put_en_oids_Check (InlOk.cons Tryz.func69 q_oids_Put_en_oids_arcs (InlOk.cons Tryz.func112 q_oids_Put_en_slices_Clone_uint32_uint32 (InlOk.cons Tryz.func113 q_oids_Put_en_oids_groups (InlOk.cons Tryz.func122 q_oids_Put_en_oids_groups_1 (InlOk.cons Tryz.func103 q_oids_Put_en_slices_Clip_byte_byte InlOk.nil))))))) Tryz.func95 q_oids_Put_en_oids_Put h
def q_oids_Put_a0 : List D := [(D.agg [(D.v (.int .u8 (9 : Int))), (D.v (.int .u32 (1 : Int))), (D.v (.int .u32 (3 : Int))), (D.v (.int .u32 (6 : Int))), (D.v (.int .u32 (1 : Int))), (D.v (.int .u32 (5 : Int))), (D.v (.int .u32 (5 : Int))), (D.v (.int .u32 (7 : Int))), (D.v (.int .u32 (2 : Int))), (D.v (.int .u32 (1 : Int))), (D.v (.int .u32 (0 : Int))), (D.v (.int .u32 (0 : Int))), (D.v (.int .u32 (0 : Int))), (D.v (.int .u32 (0 : Int))), (D.v (.int .u32 (0 : Int))), (D.v (.int .u32 (0 : Int))), (D.v (.int .u32 (0 : Int)))])]
def q_oids_Put_r0 : D := (D.tup [(D.list 8 (some 8) [(D.v (.int .u8 (43 : Int))), (D.v (.int .u8 (6 : Int))), (D.v (.int .u8 (1 : Int))), (D.v (.int .u8 (5 : Int))), (D.v (.int .u8 (5 : Int))), (D.v (.int .u8 (7 : Int))), (D.v (.int .u8 (2 : Int))), (D.v (.int .u8 (1 : Int)))]), (D.v (.int .i64 (0 : Int)))])
def q_oids_Put_a1 : List D := [(D.agg [(D.v (.int .u8 (9 : Int))), (D.v (.int .u32 (1 : Int))), (D.v (.int .u32 (3 : Int))), (D.v (.int .u32 (6 : Int))), (D.v (.int .u32 (1 : Int))), (D.v (.int .u32 (5 : Int))), (D.v (.int .u32 (5 : Int))), (D.v (.int .u32 (7 : Int))), (D.v (.int .u32 (2 : Int))), (D.v (.int .u32 (2 : Int))), (D.v (.int .u32 (0 : Int))), (D.v (.int .u32 (0 : Int))), (D.v (.int .u32 (0 : Int))), (D.v (.int .u32 (0 : Int))), (D.v (.int .u32 (0 : Int))), (D.v (.int .u32 (0 : Int))), (D.v (.int .u32 (0 : Int)))])]
def q_oids_Put_r1 : D := (D.tup [(D.list 8 (some 8) [(D.v (.int .u8 (43 : Int))), (D.v (.int .u8 (6 : Int))), (D.v (.int .u8 (1 : Int))), (D.v (.int .u8 (5 : Int))), (D.v (.int .u8 (5 : Int))), (D.v (.int .u8 (7 : Int))), (D.v (.int .u8 (2 : Int))), (D.v (.int .u8 (2 : Int)))]), (D.v (.int .i64 (0 : Int)))])
theorem q_oids_Put_e0 : funD Tryz.prog q_oids_Put_H 100000 60 q_oids_Put_fh_oids_Put Tryz.f95 q_oids_Put_a0 = some q_oids_Put_r0 := by kernel_rfl
theorem q_oids_Put_e1 : funD Tryz.prog q_oids_Put_H 100000 60 q_oids_Put_fh_oids_Put Tryz.f95 q_oids_Put_a1 = some q_oids_Put_r1 := by kernel_rfl
def sp_oids_Put (ds : List D) : Option D := if isT q_oids_Put_a0 ds then some q_oids_Put_r0 else (if isT q_oids_Put_a1 ds then some q_oids_Put_r1 else (none))
theorem ds_oids_Put : ∀ ds d, sp_oids_Put ds = some d → DataSem Tryz.prog 95 ds d := by
  intro ds d h
  unfold sp_oids_Put at h
  split at h
  · rename_i ha; obtain rfl := isT_eq ha; cases h; exact q_oids_Put_sound q_oids_Put_e0
  split at h
  · rename_i ha; obtain rfl := isT_eq ha; cases h; exact q_oids_Put_sound q_oids_Put_e1
  cases h

def q_elements_measure_fh_elements_measure : FnH := ⟨[], []⟩
def q_elements_measure_fh_elements_measure_1 : FnH := ⟨[], []⟩
def q_elements_measure_fh_elements_walk : FnH := ⟨[], []⟩
def q_elements_measure_fh_elements_walk_1 : FnH := ⟨[(5, ⟨[false, true, false, true, false, false, false, false, false, false, false, false, false, false, false, false, false, false, false, true, true, true, false, false, false, false, false, false, false, false, false, false, false, false], [(19, 5)], none⟩)], []⟩
theorem q_elements_measure_en_elements_measure : Enters Tryz.prog 123 := ⟨Tryz.f123, Tryz.func123, by kernel_rfl, by kernel_rfl⟩
theorem q_elements_measure_en_elements_measure_1 : Enters Tryz.prog 137 := ⟨Tryz.f137, Tryz.func137, by kernel_rfl, by kernel_rfl⟩
theorem q_elements_measure_en_elements_walk : Enters Tryz.prog 136 := ⟨Tryz.f136, Tryz.func136, by kernel_rfl, by kernel_rfl⟩
theorem q_elements_measure_en_elements_walk_1 : Enters Tryz.prog 147 := ⟨Tryz.f147, Tryz.func147, by kernel_rfl, by kernel_rfl⟩
noncomputable def q_elements_measure_H : Hints := ⟨[(138, sp_tags_Check)], [(123, Tryz.f123, q_elements_measure_fh_elements_measure), (137, Tryz.f137, q_elements_measure_fh_elements_measure_1), (136, Tryz.f136, q_elements_measure_fh_elements_walk), (147, Tryz.f147, q_elements_measure_fh_elements_walk_1)], [156, 158, 159, 161, 116]⟩
theorem q_elements_measure_sound {m n : Nat} {ds : List D} {d : D} (h : funD Tryz.prog q_elements_measure_H m n q_elements_measure_fh_elements_measure Tryz.f123 ds = some d) : DataSem Tryz.prog 123 ds d := data_sound (H := q_elements_measure_H) (SpOk.cons ds_tags_Check SpOk.nil) mixed (InlOk.cons Tryz.func123 q_elements_measure_en_elements_measure (InlOk.cons Tryz.func137 q_elements_measure_en_elements_measure_1 (InlOk.cons Tryz.func136 q_elements_measure_en_elements_walk (InlOk.cons Tryz.func147 q_elements_measure_en_elements_walk_1 InlOk.nil)))) Tryz.func123 q_elements_measure_en_elements_measure h
def q_elements_measure_a0 : List D := [(D.agg [(D.v (.int .u8 (0 : Int))), (D.v (.bool true)), (D.v (.int .u32 (16 : Int))), (D.list 0 (some 0) []), (D.list 2 (some 2) [(D.v (.int .u8 (0 : Int))), (D.v (.bool false)), (D.v (.int .u32 (6 : Int))), (D.list 8 (some 8) [(D.v (.int .u8 (43 : Int))), (D.v (.int .u8 (6 : Int))), (D.v (.int .u8 (1 : Int))), (D.v (.int .u8 (5 : Int))), (D.v (.int .u8 (5 : Int))), (D.v (.int .u8 (7 : Int))), (D.v (.int .u8 (2 : Int))), (D.v (.int .u8 (1 : Int)))]), (D.list 0 (some 0) []), (D.v (.int .u8 (0 : Int))), (D.v (.bool false)), (D.v (.int .u32 (22 : Int))), (D.list 8 (some 8) [(D.v (.int .u8 (104 : Int))), (D.v (.int .u8 (116 : Int))), (D.v (.int .u8 (116 : Int))), (D.v (.int .u8 (112 : Int))), (D.v (.int .u8 (58 : Int))), (D.v (.int .u8 (47 : Int))), (D.v (.int .u8 (47 : Int))), (D.v (.int .u8 (97 : Int)))]), (D.list 0 (some 0) [])])])]
def q_elements_measure_r0 : D := (D.tup [(D.v (.int .i64 (0 : Int))), (D.v (.int .i64 (3 : Int))), (D.v (.int .i64 (2 : Int)))])
def q_elements_measure_a1 : List D := [(D.agg [(D.v (.int .u8 (0 : Int))), (D.v (.bool true)), (D.v (.int .u32 (16 : Int))), (D.list 0 (some 0) []), (D.list 2 (some 2) [(D.v (.int .u8 (0 : Int))), (D.v (.bool false)), (D.v (.int .u32 (6 : Int))), (D.list 8 (some 8) [(D.v (.int .u8 (43 : Int))), (D.v (.int .u8 (6 : Int))), (D.v (.int .u8 (1 : Int))), (D.v (.int .u8 (5 : Int))), (D.v (.int .u8 (5 : Int))), (D.v (.int .u8 (7 : Int))), (D.v (.int .u8 (2 : Int))), (D.v (.int .u8 (2 : Int)))]), (D.list 0 (some 0) []), (D.v (.int .u8 (0 : Int))), (D.v (.bool true)), (D.v (.int .u32 (16 : Int))), (D.list 0 (some 0) []), (D.list 1 (some 1) [(D.v (.int .u8 (0 : Int))), (D.v (.bool false)), (D.v (.int .u32 (12 : Int))), (D.list 1 (some 1) [(D.v (.int .u8 (98 : Int)))]), (D.list 0 (some 0) [])])])])]
def q_elements_measure_r1 : D := (D.tup [(D.v (.int .i64 (0 : Int))), (D.v (.int .i64 (4 : Int))), (D.v (.int .i64 (3 : Int)))])
theorem q_elements_measure_e0 : funD Tryz.prog q_elements_measure_H 100000 60 q_elements_measure_fh_elements_measure Tryz.f123 q_elements_measure_a0 = some q_elements_measure_r0 := by kernel_rfl
theorem q_elements_measure_e1 : funD Tryz.prog q_elements_measure_H 100000 60 q_elements_measure_fh_elements_measure Tryz.f123 q_elements_measure_a1 = some q_elements_measure_r1 := by kernel_rfl
def sp_elements_measure (ds : List D) : Option D := if isT q_elements_measure_a0 ds then some q_elements_measure_r0 else (if isT q_elements_measure_a1 ds then some q_elements_measure_r1 else (none))
theorem ds_elements_measure : ∀ ds d, sp_elements_measure ds = some d → DataSem Tryz.prog 123 ds d := by
  intro ds d h
  unfold sp_elements_measure at h
  split at h
  · rename_i ha; obtain rfl := isT_eq ha; cases h; exact q_elements_measure_sound q_elements_measure_e0
  split at h
  · rename_i ha; obtain rfl := isT_eq ha; cases h; exact q_elements_measure_sound q_elements_measure_e1
  cases h

def q_lengths_Put_fh_lengths_Put : FnH := ⟨[], []⟩
def q_lengths_Put_fh_slices_Clip_byte_byte : FnH := ⟨[], []⟩
theorem q_lengths_Put_en_lengths_Put : Enters Tryz.prog 128 := ⟨Tryz.f128, Tryz.func128, by kernel_rfl, by kernel_rfl⟩
theorem q_lengths_Put_en_slices_Clip_byte_byte : Enters Tryz.prog 103 := ⟨Tryz.f103, Tryz.func103, by kernel_rfl, by kernel_rfl⟩
noncomputable def q_lengths_Put_H : Hints := ⟨[], [(128, Tryz.f128, q_lengths_Put_fh_lengths_Put), (103, Tryz.f103, q_lengths_Put_fh_slices_Clip_byte_byte)], [156, 158, 159, 161, 116]⟩
theorem q_lengths_Put_sound {m n : Nat} {ds : List D} {d : D} (h : funD Tryz.prog q_lengths_Put_H m n q_lengths_Put_fh_lengths_Put Tryz.f128 ds = some d) : DataSem Tryz.prog 128 ds d := data_sound (H := q_lengths_Put_H) SpOk.nil mixed (InlOk.cons Tryz.func128 q_lengths_Put_en_lengths_Put (InlOk.cons Tryz.func103 q_lengths_Put_en_slices_Clip_byte_byte InlOk.nil)) Tryz.func128 q_lengths_Put_en_lengths_Put h
def q_lengths_Put_a0 : List D := [(D.v (.int .i64 (8 : Int)))]
def q_lengths_Put_r0 : D := (D.tup [(D.list 1 (some 1) [(D.v (.int .u8 (8 : Int)))]), (D.v (.int .i64 (0 : Int)))])
def q_lengths_Put_a1 : List D := [(D.v (.int .i64 (20 : Int)))]
def q_lengths_Put_r1 : D := (D.tup [(D.list 1 (some 1) [(D.v (.int .u8 (20 : Int)))]), (D.v (.int .i64 (0 : Int)))])
def q_lengths_Put_a2 : List D := [(D.v (.int .i64 (1 : Int)))]
def q_lengths_Put_r2 : D := (D.tup [(D.list 1 (some 1) [(D.v (.int .u8 (1 : Int)))]), (D.v (.int .i64 (0 : Int)))])
def q_lengths_Put_a3 : List D := [(D.v (.int .i64 (3 : Int)))]
def q_lengths_Put_r3 : D := (D.tup [(D.list 1 (some 1) [(D.v (.int .u8 (3 : Int)))]), (D.v (.int .i64 (0 : Int)))])
def q_lengths_Put_a4 : List D := [(D.v (.int .i64 (15 : Int)))]
def q_lengths_Put_r4 : D := (D.tup [(D.list 1 (some 1) [(D.v (.int .u8 (15 : Int)))]), (D.v (.int .i64 (0 : Int)))])
theorem q_lengths_Put_e0 : funD Tryz.prog q_lengths_Put_H 100000 60 q_lengths_Put_fh_lengths_Put Tryz.f128 q_lengths_Put_a0 = some q_lengths_Put_r0 := by kernel_rfl
theorem q_lengths_Put_e1 : funD Tryz.prog q_lengths_Put_H 100000 60 q_lengths_Put_fh_lengths_Put Tryz.f128 q_lengths_Put_a1 = some q_lengths_Put_r1 := by kernel_rfl
theorem q_lengths_Put_e2 : funD Tryz.prog q_lengths_Put_H 100000 60 q_lengths_Put_fh_lengths_Put Tryz.f128 q_lengths_Put_a2 = some q_lengths_Put_r2 := by kernel_rfl
theorem q_lengths_Put_e3 : funD Tryz.prog q_lengths_Put_H 100000 60 q_lengths_Put_fh_lengths_Put Tryz.f128 q_lengths_Put_a3 = some q_lengths_Put_r3 := by kernel_rfl
theorem q_lengths_Put_e4 : funD Tryz.prog q_lengths_Put_H 100000 60 q_lengths_Put_fh_lengths_Put Tryz.f128 q_lengths_Put_a4 = some q_lengths_Put_r4 := by kernel_rfl
def sp_lengths_Put (ds : List D) : Option D := if isT q_lengths_Put_a0 ds then some q_lengths_Put_r0 else (if isT q_lengths_Put_a1 ds then some q_lengths_Put_r1 else (if isT q_lengths_Put_a2 ds then some q_lengths_Put_r2 else (if isT q_lengths_Put_a3 ds then some q_lengths_Put_r3 else (if isT q_lengths_Put_a4 ds then some q_lengths_Put_r4 else (none)))))
theorem ds_lengths_Put : ∀ ds d, sp_lengths_Put ds = some d → DataSem Tryz.prog 128 ds d := by
  intro ds d h
  unfold sp_lengths_Put at h
  split at h
  · rename_i ha; obtain rfl := isT_eq ha; cases h; exact q_lengths_Put_sound q_lengths_Put_e0
  split at h
  · rename_i ha; obtain rfl := isT_eq ha; cases h; exact q_lengths_Put_sound q_lengths_Put_e1
  split at h
  · rename_i ha; obtain rfl := isT_eq ha; cases h; exact q_lengths_Put_sound q_lengths_Put_e2
  split at h
  · rename_i ha; obtain rfl := isT_eq ha; cases h; exact q_lengths_Put_sound q_lengths_Put_e3
  split at h
  · rename_i ha; obtain rfl := isT_eq ha; cases h; exact q_lengths_Put_sound q_lengths_Put_e4
  cases h

def q_lengths_Total_fh_lengths_Total : FnH := ⟨[], []⟩
def q_lengths_Total_fh_lengths_Size : FnH := ⟨[], []⟩
theorem q_lengths_Total_en_lengths_Total : Enters Tryz.prog 125 := ⟨Tryz.f125, Tryz.func125, by kernel_rfl, by kernel_rfl⟩
theorem q_lengths_Total_en_lengths_Size : Enters Tryz.prog 139 := ⟨Tryz.f139, Tryz.func139, by kernel_rfl, by kernel_rfl⟩
noncomputable def q_lengths_Total_H : Hints := ⟨[(128, sp_lengths_Put)], [(125, Tryz.f125, q_lengths_Total_fh_lengths_Total), (139, Tryz.f139, q_lengths_Total_fh_lengths_Size)], [156, 158, 159, 161, 116]⟩
theorem q_lengths_Total_sound {m n : Nat} {ds : List D} {d : D} (h : funD Tryz.prog q_lengths_Total_H m n q_lengths_Total_fh_lengths_Total Tryz.f125 ds = some d) : DataSem Tryz.prog 125 ds d := data_sound (H := q_lengths_Total_H) (SpOk.cons ds_lengths_Put SpOk.nil) mixed (InlOk.cons Tryz.func125 q_lengths_Total_en_lengths_Total (InlOk.cons Tryz.func139 q_lengths_Total_en_lengths_Size InlOk.nil)) Tryz.func125 q_lengths_Total_en_lengths_Total h
def q_lengths_Total_a0 : List D := [(D.v (.int .i64 (1 : Int))), (D.v (.int .i64 (8 : Int)))]
def q_lengths_Total_r0 : D := (D.v (.int .i64 (10 : Int)))
def q_lengths_Total_a1 : List D := [(D.v (.int .i64 (1 : Int))), (D.v (.int .i64 (20 : Int)))]
def q_lengths_Total_r1 : D := (D.v (.int .i64 (22 : Int)))
def q_lengths_Total_a2 : List D := [(D.v (.int .i64 (1 : Int))), (D.v (.int .i64 (1 : Int)))]
def q_lengths_Total_r2 : D := (D.v (.int .i64 (3 : Int)))
def q_lengths_Total_a3 : List D := [(D.v (.int .i64 (1 : Int))), (D.v (.int .i64 (3 : Int)))]
def q_lengths_Total_r3 : D := (D.v (.int .i64 (5 : Int)))
def q_lengths_Total_a4 : List D := [(D.v (.int .i64 (1 : Int))), (D.v (.int .i64 (15 : Int)))]
def q_lengths_Total_r4 : D := (D.v (.int .i64 (17 : Int)))
theorem q_lengths_Total_e0 : funD Tryz.prog q_lengths_Total_H 100000 60 q_lengths_Total_fh_lengths_Total Tryz.f125 q_lengths_Total_a0 = some q_lengths_Total_r0 := by kernel_rfl
theorem q_lengths_Total_e1 : funD Tryz.prog q_lengths_Total_H 100000 60 q_lengths_Total_fh_lengths_Total Tryz.f125 q_lengths_Total_a1 = some q_lengths_Total_r1 := by kernel_rfl
theorem q_lengths_Total_e2 : funD Tryz.prog q_lengths_Total_H 100000 60 q_lengths_Total_fh_lengths_Total Tryz.f125 q_lengths_Total_a2 = some q_lengths_Total_r2 := by kernel_rfl
theorem q_lengths_Total_e3 : funD Tryz.prog q_lengths_Total_H 100000 60 q_lengths_Total_fh_lengths_Total Tryz.f125 q_lengths_Total_a3 = some q_lengths_Total_r3 := by kernel_rfl
theorem q_lengths_Total_e4 : funD Tryz.prog q_lengths_Total_H 100000 60 q_lengths_Total_fh_lengths_Total Tryz.f125 q_lengths_Total_a4 = some q_lengths_Total_r4 := by kernel_rfl
def sp_lengths_Total (ds : List D) : Option D := if isT q_lengths_Total_a0 ds then some q_lengths_Total_r0 else (if isT q_lengths_Total_a1 ds then some q_lengths_Total_r1 else (if isT q_lengths_Total_a2 ds then some q_lengths_Total_r2 else (if isT q_lengths_Total_a3 ds then some q_lengths_Total_r3 else (if isT q_lengths_Total_a4 ds then some q_lengths_Total_r4 else (none)))))
theorem ds_lengths_Total : ∀ ds d, sp_lengths_Total ds = some d → DataSem Tryz.prog 125 ds d := by
  intro ds d h
  unfold sp_lengths_Total at h
  split at h
  · rename_i ha; obtain rfl := isT_eq ha; cases h; exact q_lengths_Total_sound q_lengths_Total_e0
  split at h
  · rename_i ha; obtain rfl := isT_eq ha; cases h; exact q_lengths_Total_sound q_lengths_Total_e1
  split at h
  · rename_i ha; obtain rfl := isT_eq ha; cases h; exact q_lengths_Total_sound q_lengths_Total_e2
  split at h
  · rename_i ha; obtain rfl := isT_eq ha; cases h; exact q_lengths_Total_sound q_lengths_Total_e3
  split at h
  · rename_i ha; obtain rfl := isT_eq ha; cases h; exact q_lengths_Total_sound q_lengths_Total_e4
  cases h

def q_tags_Put_fh_tags_Put : FnH := ⟨[(11, ⟨[false, false, true, true, false, false, true, false, false, false, false, false, false, false, false, false, false, false, false, false, false, false, false, false, false, false, false, false, false, false, false, false, false, false, false, false, false, false, false, false, false, false], [], none⟩)], []⟩
def q_tags_Put_fh_tags_groups : FnH := ⟨[], []⟩
def q_tags_Put_fh_tags_groups_1 : FnH := ⟨[(1, ⟨[true, true, false, true, false, false, false, false, false, false, false, false, false, false, false, false, false, false, false, false, false, false, false, false, false, false, false, false, false], [], none⟩), (3, ⟨[true, true, false, true, false, false, false, false, false, false, false, false, false, false, false, false, false, false, false, false, false, false, false, false, false, false, false, false, false], [], none⟩)], []⟩
def q_tags_Put_fh_slices_Clip_byte_byte : FnH := ⟨[], []⟩
theorem q_tags_Put_en_tags_Put : Enters Tryz.prog 127 := ⟨Tryz.f127, Tryz.func127, by kernel_rfl, by kernel_rfl⟩
theorem q_tags_Put_en_tags_groups : Enters Tryz.prog 140 := ⟨Tryz.f140, Tryz.func140, by kernel_rfl, by kernel_rfl⟩
theorem q_tags_Put_en_tags_groups_1 : Enters Tryz.prog 148 := ⟨Tryz.f148, Tryz.func148, by kernel_rfl, by kernel_rfl⟩
theorem q_tags_Put_en_slices_Clip_byte_byte : Enters Tryz.prog 103 := ⟨Tryz.f103, Tryz.func103, by kernel_rfl, by kernel_rfl⟩
noncomputable def q_tags_Put_H : Hints := ⟨[(138, sp_tags_Check)], [(127, Tryz.f127, q_tags_Put_fh_tags_Put), (140, Tryz.f140, q_tags_Put_fh_tags_groups), (148, Tryz.f148, q_tags_Put_fh_tags_groups_1), (103, Tryz.f103, q_tags_Put_fh_slices_Clip_byte_byte)], [156, 158, 159, 161, 116]⟩
theorem q_tags_Put_sound {m n : Nat} {ds : List D} {d : D} (h : funD Tryz.prog q_tags_Put_H m n q_tags_Put_fh_tags_Put Tryz.f127 ds = some d) : DataSem Tryz.prog 127 ds d := data_sound (H := q_tags_Put_H) (SpOk.cons ds_tags_Check SpOk.nil) mixed (InlOk.cons Tryz.func127 q_tags_Put_en_tags_Put (InlOk.cons Tryz.func140 q_tags_Put_en_tags_groups (InlOk.cons Tryz.func148 q_tags_Put_en_tags_groups_1 (InlOk.cons Tryz.func103 q_tags_Put_en_slices_Clip_byte_byte InlOk.nil)))) Tryz.func127 q_tags_Put_en_tags_Put h
def q_tags_Put_a0 : List D := [(D.agg [(D.v (.int .u8 (0 : Int))), (D.v (.bool false)), (D.v (.int .u32 (6 : Int)))])]
def q_tags_Put_r0 : D := (D.tup [(D.list 1 (some 1) [(D.v (.int .u8 (6 : Int)))]), (D.v (.int .i64 (0 : Int)))])
def q_tags_Put_a1 : List D := [(D.agg [(D.v (.int .u8 (0 : Int))), (D.v (.bool false)), (D.v (.int .u32 (22 : Int)))])]
def q_tags_Put_r1 : D := (D.tup [(D.list 1 (some 1) [(D.v (.int .u8 (22 : Int)))]), (D.v (.int .i64 (0 : Int)))])
def q_tags_Put_a2 : List D := [(D.agg [(D.v (.int .u8 (0 : Int))), (D.v (.bool true)), (D.v (.int .u32 (16 : Int)))])]
def q_tags_Put_r2 : D := (D.tup [(D.list 1 (some 1) [(D.v (.int .u8 (48 : Int)))]), (D.v (.int .i64 (0 : Int)))])
def q_tags_Put_a3 : List D := [(D.agg [(D.v (.int .u8 (0 : Int))), (D.v (.bool false)), (D.v (.int .u32 (12 : Int)))])]
def q_tags_Put_r3 : D := (D.tup [(D.list 1 (some 1) [(D.v (.int .u8 (12 : Int)))]), (D.v (.int .i64 (0 : Int)))])
theorem q_tags_Put_e0 : funD Tryz.prog q_tags_Put_H 100000 60 q_tags_Put_fh_tags_Put Tryz.f127 q_tags_Put_a0 = some q_tags_Put_r0 := by kernel_rfl
theorem q_tags_Put_e1 : funD Tryz.prog q_tags_Put_H 100000 60 q_tags_Put_fh_tags_Put Tryz.f127 q_tags_Put_a1 = some q_tags_Put_r1 := by kernel_rfl
theorem q_tags_Put_e2 : funD Tryz.prog q_tags_Put_H 100000 60 q_tags_Put_fh_tags_Put Tryz.f127 q_tags_Put_a2 = some q_tags_Put_r2 := by kernel_rfl
theorem q_tags_Put_e3 : funD Tryz.prog q_tags_Put_H 100000 60 q_tags_Put_fh_tags_Put Tryz.f127 q_tags_Put_a3 = some q_tags_Put_r3 := by kernel_rfl
def sp_tags_Put (ds : List D) : Option D := if isT q_tags_Put_a0 ds then some q_tags_Put_r0 else (if isT q_tags_Put_a1 ds then some q_tags_Put_r1 else (if isT q_tags_Put_a2 ds then some q_tags_Put_r2 else (if isT q_tags_Put_a3 ds then some q_tags_Put_r3 else (none))))
theorem ds_tags_Put : ∀ ds d, sp_tags_Put ds = some d → DataSem Tryz.prog 127 ds d := by
  intro ds d h
  unfold sp_tags_Put at h
  split at h
  · rename_i ha; obtain rfl := isT_eq ha; cases h; exact q_tags_Put_sound q_tags_Put_e0
  split at h
  · rename_i ha; obtain rfl := isT_eq ha; cases h; exact q_tags_Put_sound q_tags_Put_e1
  split at h
  · rename_i ha; obtain rfl := isT_eq ha; cases h; exact q_tags_Put_sound q_tags_Put_e2
  split at h
  · rename_i ha; obtain rfl := isT_eq ha; cases h; exact q_tags_Put_sound q_tags_Put_e3
  cases h

def q_tags_Size_fh_tags_Size : FnH := ⟨[], []⟩
theorem q_tags_Size_en_tags_Size : Enters Tryz.prog 126 := ⟨Tryz.f126, Tryz.func126, by kernel_rfl, by kernel_rfl⟩
noncomputable def q_tags_Size_H : Hints := ⟨[(127, sp_tags_Put)], [(126, Tryz.f126, q_tags_Size_fh_tags_Size)], [156, 158, 159, 161, 116]⟩
theorem q_tags_Size_sound {m n : Nat} {ds : List D} {d : D} (h : funD Tryz.prog q_tags_Size_H m n q_tags_Size_fh_tags_Size Tryz.f126 ds = some d) : DataSem Tryz.prog 126 ds d := data_sound (H := q_tags_Size_H) (SpOk.cons ds_tags_Put SpOk.nil) mixed (InlOk.cons Tryz.func126 q_tags_Size_en_tags_Size InlOk.nil) Tryz.func126 q_tags_Size_en_tags_Size h
def q_tags_Size_a0 : List D := [(D.agg [(D.v (.int .u8 (0 : Int))), (D.v (.bool false)), (D.v (.int .u32 (6 : Int)))])]
def q_tags_Size_r0 : D := (D.v (.int .i64 (1 : Int)))
def q_tags_Size_a1 : List D := [(D.agg [(D.v (.int .u8 (0 : Int))), (D.v (.bool false)), (D.v (.int .u32 (22 : Int)))])]
def q_tags_Size_r1 : D := (D.v (.int .i64 (1 : Int)))
def q_tags_Size_a2 : List D := [(D.agg [(D.v (.int .u8 (0 : Int))), (D.v (.bool true)), (D.v (.int .u32 (16 : Int)))])]
def q_tags_Size_r2 : D := (D.v (.int .i64 (1 : Int)))
def q_tags_Size_a3 : List D := [(D.agg [(D.v (.int .u8 (0 : Int))), (D.v (.bool false)), (D.v (.int .u32 (12 : Int)))])]
def q_tags_Size_r3 : D := (D.v (.int .i64 (1 : Int)))
theorem q_tags_Size_e0 : funD Tryz.prog q_tags_Size_H 100000 60 q_tags_Size_fh_tags_Size Tryz.f126 q_tags_Size_a0 = some q_tags_Size_r0 := by kernel_rfl
theorem q_tags_Size_e1 : funD Tryz.prog q_tags_Size_H 100000 60 q_tags_Size_fh_tags_Size Tryz.f126 q_tags_Size_a1 = some q_tags_Size_r1 := by kernel_rfl
theorem q_tags_Size_e2 : funD Tryz.prog q_tags_Size_H 100000 60 q_tags_Size_fh_tags_Size Tryz.f126 q_tags_Size_a2 = some q_tags_Size_r2 := by kernel_rfl
theorem q_tags_Size_e3 : funD Tryz.prog q_tags_Size_H 100000 60 q_tags_Size_fh_tags_Size Tryz.f126 q_tags_Size_a3 = some q_tags_Size_r3 := by kernel_rfl
def sp_tags_Size (ds : List D) : Option D := if isT q_tags_Size_a0 ds then some q_tags_Size_r0 else (if isT q_tags_Size_a1 ds then some q_tags_Size_r1 else (if isT q_tags_Size_a2 ds then some q_tags_Size_r2 else (if isT q_tags_Size_a3 ds then some q_tags_Size_r3 else (none))))
theorem ds_tags_Size : ∀ ds d, sp_tags_Size ds = some d → DataSem Tryz.prog 126 ds d := by
  intro ds d h
  unfold sp_tags_Size at h
  split at h
  · rename_i ha; obtain rfl := isT_eq ha; cases h; exact q_tags_Size_sound q_tags_Size_e0
  split at h
  · rename_i ha; obtain rfl := isT_eq ha; cases h; exact q_tags_Size_sound q_tags_Size_e1
  split at h
  · rename_i ha; obtain rfl := isT_eq ha; cases h; exact q_tags_Size_sound q_tags_Size_e2
  split at h
  · rename_i ha; obtain rfl := isT_eq ha; cases h; exact q_tags_Size_sound q_tags_Size_e3
  cases h

def q_elements_content_fh_elements_content : FnH := ⟨[(5, ⟨[false, false, false, true, false, false, false, false, false, false, false, false, false, false, true, true, true, false, false, false, false, false, false, false, false, false, false], [(14, 5)], none⟩)], []⟩
def q_elements_content_fh_elements_size : FnH := ⟨[], []⟩
theorem q_elements_content_en_elements_content : Enters Tryz.prog 124 := ⟨Tryz.f124, Tryz.func124, by kernel_rfl, by kernel_rfl⟩
theorem q_elements_content_en_elements_size : Enters Tryz.prog 115 := ⟨Tryz.f115, Tryz.func115, by kernel_rfl, by kernel_rfl⟩
noncomputable def q_elements_content_H : Hints := ⟨[(125, sp_lengths_Total), (126, sp_tags_Size)], [(124, Tryz.f124, q_elements_content_fh_elements_content), (115, Tryz.f115, q_elements_content_fh_elements_size)], [156, 158, 159, 161, 116]⟩
theorem q_elements_content_sound {m n : Nat} {ds : List D} {d : D} (h : funD Tryz.prog q_elements_content_H m n q_elements_content_fh_elements_content Tryz.f124 ds = some d) : DataSem Tryz.prog 124 ds d := data_sound (H := q_elements_content_H) (SpOk.cons ds_lengths_Total (SpOk.cons ds_tags_Size SpOk.nil)) mixed (InlOk.cons Tryz.func124 q_elements_content_en_elements_content (InlOk.cons Tryz.func115 q_elements_content_en_elements_size InlOk.nil)) Tryz.func124 q_elements_content_en_elements_content h
def q_elements_content_a0 : List D := [(D.agg [(D.v (.int .u8 (0 : Int))), (D.v (.bool true)), (D.v (.int .u32 (16 : Int))), (D.list 0 (some 0) []), (D.list 2 (some 2) [(D.v (.int .u8 (0 : Int))), (D.v (.bool false)), (D.v (.int .u32 (6 : Int))), (D.list 8 (some 8) [(D.v (.int .u8 (43 : Int))), (D.v (.int .u8 (6 : Int))), (D.v (.int .u8 (1 : Int))), (D.v (.int .u8 (5 : Int))), (D.v (.int .u8 (5 : Int))), (D.v (.int .u8 (7 : Int))), (D.v (.int .u8 (2 : Int))), (D.v (.int .u8 (1 : Int)))]), (D.list 0 (some 0) []), (D.v (.int .u8 (0 : Int))), (D.v (.bool false)), (D.v (.int .u32 (22 : Int))), (D.list 8 (some 8) [(D.v (.int .u8 (104 : Int))), (D.v (.int .u8 (116 : Int))), (D.v (.int .u8 (116 : Int))), (D.v (.int .u8 (112 : Int))), (D.v (.int .u8 (58 : Int))), (D.v (.int .u8 (47 : Int))), (D.v (.int .u8 (47 : Int))), (D.v (.int .u8 (97 : Int)))]), (D.list 0 (some 0) [])])])]
def q_elements_content_r0 : D := (D.v (.int .i64 (20 : Int)))
def q_elements_content_a1 : List D := [(D.agg [(D.v (.int .u8 (0 : Int))), (D.v (.bool false)), (D.v (.int .u32 (6 : Int))), (D.list 8 (some 8) [(D.v (.int .u8 (43 : Int))), (D.v (.int .u8 (6 : Int))), (D.v (.int .u8 (1 : Int))), (D.v (.int .u8 (5 : Int))), (D.v (.int .u8 (5 : Int))), (D.v (.int .u8 (7 : Int))), (D.v (.int .u8 (2 : Int))), (D.v (.int .u8 (1 : Int)))]), (D.list 0 (some 0) [])])]
def q_elements_content_r1 : D := (D.v (.int .i64 (8 : Int)))
def q_elements_content_a2 : List D := [(D.agg [(D.v (.int .u8 (0 : Int))), (D.v (.bool false)), (D.v (.int .u32 (22 : Int))), (D.list 8 (some 8) [(D.v (.int .u8 (104 : Int))), (D.v (.int .u8 (116 : Int))), (D.v (.int .u8 (116 : Int))), (D.v (.int .u8 (112 : Int))), (D.v (.int .u8 (58 : Int))), (D.v (.int .u8 (47 : Int))), (D.v (.int .u8 (47 : Int))), (D.v (.int .u8 (97 : Int)))]), (D.list 0 (some 0) [])])]
def q_elements_content_r2 : D := (D.v (.int .i64 (8 : Int)))
def q_elements_content_a3 : List D := [(D.agg [(D.v (.int .u8 (0 : Int))), (D.v (.bool true)), (D.v (.int .u32 (16 : Int))), (D.list 0 (some 0) []), (D.list 2 (some 2) [(D.v (.int .u8 (0 : Int))), (D.v (.bool false)), (D.v (.int .u32 (6 : Int))), (D.list 8 (some 8) [(D.v (.int .u8 (43 : Int))), (D.v (.int .u8 (6 : Int))), (D.v (.int .u8 (1 : Int))), (D.v (.int .u8 (5 : Int))), (D.v (.int .u8 (5 : Int))), (D.v (.int .u8 (7 : Int))), (D.v (.int .u8 (2 : Int))), (D.v (.int .u8 (2 : Int)))]), (D.list 0 (some 0) []), (D.v (.int .u8 (0 : Int))), (D.v (.bool true)), (D.v (.int .u32 (16 : Int))), (D.list 0 (some 0) []), (D.list 1 (some 1) [(D.v (.int .u8 (0 : Int))), (D.v (.bool false)), (D.v (.int .u32 (12 : Int))), (D.list 1 (some 1) [(D.v (.int .u8 (98 : Int)))]), (D.list 0 (some 0) [])])])])]
def q_elements_content_r3 : D := (D.v (.int .i64 (15 : Int)))
def q_elements_content_a4 : List D := [(D.agg [(D.v (.int .u8 (0 : Int))), (D.v (.bool false)), (D.v (.int .u32 (6 : Int))), (D.list 8 (some 8) [(D.v (.int .u8 (43 : Int))), (D.v (.int .u8 (6 : Int))), (D.v (.int .u8 (1 : Int))), (D.v (.int .u8 (5 : Int))), (D.v (.int .u8 (5 : Int))), (D.v (.int .u8 (7 : Int))), (D.v (.int .u8 (2 : Int))), (D.v (.int .u8 (2 : Int)))]), (D.list 0 (some 0) [])])]
def q_elements_content_r4 : D := (D.v (.int .i64 (8 : Int)))
def q_elements_content_a5 : List D := [(D.agg [(D.v (.int .u8 (0 : Int))), (D.v (.bool true)), (D.v (.int .u32 (16 : Int))), (D.list 0 (some 0) []), (D.list 1 (some 1) [(D.v (.int .u8 (0 : Int))), (D.v (.bool false)), (D.v (.int .u32 (12 : Int))), (D.list 1 (some 1) [(D.v (.int .u8 (98 : Int)))]), (D.list 0 (some 0) [])])])]
def q_elements_content_r5 : D := (D.v (.int .i64 (3 : Int)))
def q_elements_content_a6 : List D := [(D.agg [(D.v (.int .u8 (0 : Int))), (D.v (.bool false)), (D.v (.int .u32 (12 : Int))), (D.list 1 (some 1) [(D.v (.int .u8 (98 : Int)))]), (D.list 0 (some 0) [])])]
def q_elements_content_r6 : D := (D.v (.int .i64 (1 : Int)))
theorem q_elements_content_e0 : funD Tryz.prog q_elements_content_H 100000 60 q_elements_content_fh_elements_content Tryz.f124 q_elements_content_a0 = some q_elements_content_r0 := by kernel_rfl
theorem q_elements_content_e1 : funD Tryz.prog q_elements_content_H 100000 60 q_elements_content_fh_elements_content Tryz.f124 q_elements_content_a1 = some q_elements_content_r1 := by kernel_rfl
theorem q_elements_content_e2 : funD Tryz.prog q_elements_content_H 100000 60 q_elements_content_fh_elements_content Tryz.f124 q_elements_content_a2 = some q_elements_content_r2 := by kernel_rfl
theorem q_elements_content_e3 : funD Tryz.prog q_elements_content_H 100000 60 q_elements_content_fh_elements_content Tryz.f124 q_elements_content_a3 = some q_elements_content_r3 := by kernel_rfl
theorem q_elements_content_e4 : funD Tryz.prog q_elements_content_H 100000 60 q_elements_content_fh_elements_content Tryz.f124 q_elements_content_a4 = some q_elements_content_r4 := by kernel_rfl
theorem q_elements_content_e5 : funD Tryz.prog q_elements_content_H 100000 60 q_elements_content_fh_elements_content Tryz.f124 q_elements_content_a5 = some q_elements_content_r5 := by kernel_rfl
theorem q_elements_content_e6 : funD Tryz.prog q_elements_content_H 100000 60 q_elements_content_fh_elements_content Tryz.f124 q_elements_content_a6 = some q_elements_content_r6 := by kernel_rfl
def sp_elements_content (ds : List D) : Option D := if isT q_elements_content_a0 ds then some q_elements_content_r0 else (if isT q_elements_content_a1 ds then some q_elements_content_r1 else (if isT q_elements_content_a2 ds then some q_elements_content_r2 else (if isT q_elements_content_a3 ds then some q_elements_content_r3 else (if isT q_elements_content_a4 ds then some q_elements_content_r4 else (if isT q_elements_content_a5 ds then some q_elements_content_r5 else (if isT q_elements_content_a6 ds then some q_elements_content_r6 else (none)))))))
theorem ds_elements_content : ∀ ds d, sp_elements_content ds = some d → DataSem Tryz.prog 124 ds d := by
  intro ds d h
  unfold sp_elements_content at h
  split at h
  · rename_i ha; obtain rfl := isT_eq ha; cases h; exact q_elements_content_sound q_elements_content_e0
  split at h
  · rename_i ha; obtain rfl := isT_eq ha; cases h; exact q_elements_content_sound q_elements_content_e1
  split at h
  · rename_i ha; obtain rfl := isT_eq ha; cases h; exact q_elements_content_sound q_elements_content_e2
  split at h
  · rename_i ha; obtain rfl := isT_eq ha; cases h; exact q_elements_content_sound q_elements_content_e3
  split at h
  · rename_i ha; obtain rfl := isT_eq ha; cases h; exact q_elements_content_sound q_elements_content_e4
  split at h
  · rename_i ha; obtain rfl := isT_eq ha; cases h; exact q_elements_content_sound q_elements_content_e5
  split at h
  · rename_i ha; obtain rfl := isT_eq ha; cases h; exact q_elements_content_sound q_elements_content_e6
  cases h

def q_qualifiers_Check_fh_qualifiers_Check : FnH := ⟨[], []⟩
def q_qualifiers_Check_fh_qualifiers_put : FnH := ⟨[], []⟩
def q_qualifiers_Check_fh_qualifiers_table_1 : FnH := ⟨[], []⟩
def q_qualifiers_Check_fh_qualifiers_table_2 : FnH := ⟨[(4, ⟨[false, false, false, false, false, false, false, false, false, false, false, true, true, true, false, false, false, false, false, false, false, false, false, false], [(11, 1)], none⟩)], []⟩
def q_qualifiers_Check_fh_qualifiers_table_3 : FnH := ⟨[], []⟩
def q_qualifiers_Check_fh_slices_Clip_byte_byte : FnH := ⟨[], []⟩
def q_qualifiers_Check_fh_qualifiers_table_4 : FnH := ⟨[], []⟩
def q_qualifiers_Check_fh_qualifiers_notice : FnH := ⟨[], []⟩
def q_qualifiers_Check_fh_qualifiers_displayed : FnH := ⟨[], []⟩
def q_qualifiers_Check_fh_slices_Contains_uint32_uint32 : FnH := ⟨[], []⟩
def q_qualifiers_Check_fh_slices_Index_uint32_uint32 : FnH := ⟨[(2, ⟨[true, true, false, false, false, false, false, true, true, false, false, false, false, false, false, false, false, false, false], [], none⟩)], []⟩
def q_qualifiers_Check_fh_qualifiers_buildNotice : FnH := ⟨[(8, ⟨[false, true, true, false, true, true, false, true, false, false, false, false, false, false, false, false, false, false, false, false, false, false, false, false, false, false, false, false, false, true, true, true, false, false, false, false, false, false, false, false, false, false, false, false, false, false, false, false, false, false, false, false, false, false, false, false, false, false, false, false, false, false, false, false, false, false, false, false, false, false, false, false, false, false, false, false, false, false, false, false, false, false, false], [(29, 1)], none⟩)], []⟩
def q_qualifiers_Check_fh_scalars_PutInt : FnH := ⟨[(3, ⟨[true, false, false, true, false, false, true, false, false, false, false, false, false, false, false, false, false, false, false, false, false, false, false, false, false], [], none⟩), (8, ⟨[false, false, false, false, false, true, false, false, false, false, false, false, false, false, false, false, false, false, false, false, false, false, false, false, false], [(5, 1)], none⟩)], []⟩
def q_qualifiers_Check_fh_scalars_superfluous : FnH := ⟨[], []⟩
def q_qualifiers_Check_fh_slices_Clip_api_Element_api_Element : FnH := ⟨[], []⟩
def q_qualifiers_Check_fh_qualifiers_table_5 : FnH := ⟨[], []⟩
def q_qualifiers_Check_fh_qualifiers_table_6 : FnH := ⟨[], []⟩
def q_qualifiers_Check_fh_oids_Check : FnH := ⟨[(6, ⟨[false, false, false, false, false, false, false, false, false, false, false, false, false, false, false, false, false, false, false, false, false, false, false, false, false, false, false, false, false, false, false, false, false, false, false, false, false, false, true, true, true, false, false, false, false, false, false], [(38, 1)], none⟩)], []⟩
def q_qualifiers_Check_fh_elements_Get : FnH := ⟨[], []⟩
def q_qualifiers_Check_fh_elements_Next : FnH := ⟨[], []⟩
def q_qualifiers_Check_fh_elements_Next_1 : FnH := ⟨[], []⟩
def q_qualifiers_Check_fh_elements_reader_element : FnH := ⟨[(25, ⟨[true, true, true, true, false, false, false, false, true, false, false, false, false, false, true, false, false, false, false, false, false, false, false, false, false, false, false, false, false, false, false, false, false, false, false, false, false, false, false, false, false, false, false, false, false, false, false, false, false, false, false, false, false, false, false, false, false, false, false, false, false, false, false, false, false, false, false, false, false, false, false, false, false, false, false, false, false, false, false, false, false, false, false, false, false, false, false, false, false, false, false, false, false, false, false, false, false, false, false, false, false, false, false, false, false, false, false, false, false, false, false, false, false, false, false, false, false, false, false, false, false, false, false, false, false, false, false, false, false, false, false, false, false, false, false, false, false, false, false, false, false, false, false, false, false, false, false, false, false, false, false], [], none⟩)], []⟩
def q_qualifiers_Check_fh_tags_Get : FnH := ⟨[], []⟩
def q_qualifiers_Check_fh_tags_number : FnH := ⟨[(3, ⟨[true, false, true, true, false, false, false, false, false, false, false, false, false, false, false, false, false, false, false, false, false, false, false, false, false, false, false, false, false, false, false, false, false, false, false, false, false, false, false, false, false, false, false], [], none⟩)], []⟩
def q_qualifiers_Check_fh_lengths_Get : FnH := ⟨[], []⟩
def q_qualifiers_Check_fh_bytes_Clone : FnH := ⟨[], []⟩
def q_qualifiers_Check_fh_qualifiers_table_7 : FnH := ⟨[], []⟩
def q_qualifiers_Check_fh_qualifiers_zero : FnH := ⟨[], []⟩
def q_qualifiers_Check_fh_elements_Put : FnH := ⟨[], []⟩
def q_qualifiers_Check_fh_elements_Check : FnH := ⟨[], []⟩
def q_qualifiers_Check_fh_elements_size : FnH := ⟨[], []⟩
def q_qualifiers_Check_fh_elements_put : FnH := ⟨[(6, ⟨[true, false, false, false, false, false, false, false, false, false, false, false, false, false, false, false, false, false, false, false, false, false, false, false, false, false, false, false, false, false, false, false, false, true, true, true, false, false, false, false, false, false, false, false], [(0, 1), (33, 5)], none⟩)], []⟩
theorem q_qualifiers_Check_en_qualifiers_Check : Enters Tryz.prog 72 := ⟨Tryz.f72, Tryz.func72, by kernel_rfl, by kernel_rfl⟩
theorem q_qualifiers_Check_en_qualifiers_put : Enters Tryz.prog 85 := ⟨Tryz.f85, Tryz.func85, by kernel_rfl, by kernel_rfl⟩
theorem q_qualifiers_Check_en_qualifiers_table_1 : Enters Tryz.prog 100 := ⟨Tryz.f100, Tryz.func100, by kernel_rfl, by kernel_rfl⟩
theorem q_qualifiers_Check_en_qualifiers_table_2 : Enters Tryz.prog 101 := ⟨Tryz.f101, Tryz.func101, by kernel_rfl, by kernel_rfl⟩
theorem q_qualifiers_Check_en_qualifiers_table_3 : Enters Tryz.prog 102 := ⟨Tryz.f102, Tryz.func102, by kernel_rfl, by kernel_rfl⟩
theorem q_qualifiers_Check_en_slices_Clip_byte_byte : Enters Tryz.prog 103 := ⟨Tryz.f103, Tryz.func103, by kernel_rfl, by kernel_rfl⟩
theorem q_qualifiers_Check_en_qualifiers_table_4 : Enters Tryz.prog 104 := ⟨Tryz.f104, Tryz.func104, by kernel_rfl, by kernel_rfl⟩
theorem q_qualifiers_Check_en_qualifiers_notice : Enters Tryz.prog 105 := ⟨Tryz.f105, Tryz.func105, by kernel_rfl, by kernel_rfl⟩
theorem q_qualifiers_Check_en_qualifiers_displayed : Enters Tryz.prog 117 := ⟨Tryz.f117, Tryz.func117, by kernel_rfl, by kernel_rfl⟩
theorem q_qualifiers_Check_en_slices_Contains_uint32_uint32 : Enters Tryz.prog 129 := ⟨Tryz.f129, Tryz.func129, by kernel_rfl, by kernel_rfl⟩
theorem q_qualifiers_Check_en_slices_Index_uint32_uint32 : Enters Tryz.prog 141 := ⟨Tryz.f141, Tryz.func141, by kernel_rfl, by kernel_rfl⟩
theorem q_qualifiers_Check_en_qualifiers_buildNotice : Enters Tryz.prog 106 := ⟨Tryz.f106, Tryz.func106, by kernel_rfl, by kernel_rfl⟩
theorem q_qualifiers_Check_en_scalars_PutInt : Enters Tryz.prog 119 := ⟨Tryz.f119, Tryz.func119, by kernel_rfl, by kernel_rfl⟩
theorem q_qualifiers_Check_en_scalars_superfluous : Enters Tryz.prog 133 := ⟨Tryz.f133, Tryz.func133, by kernel_rfl, by kernel_rfl⟩
theorem q_qualifiers_Check_en_slices_Clip_api_Element_api_Element : Enters Tryz.prog 120 := ⟨Tryz.f120, Tryz.func120, by kernel_rfl, by kernel_rfl⟩
theorem q_qualifiers_Check_en_qualifiers_table_5 : Enters Tryz.prog 107 := ⟨Tryz.f107, Tryz.func107, by kernel_rfl, by kernel_rfl⟩
theorem q_qualifiers_Check_en_qualifiers_table_6 : Enters Tryz.prog 108 := ⟨Tryz.f108, Tryz.func108, by kernel_rfl, by kernel_rfl⟩
theorem q_qualifiers_Check_en_oids_Check : Enters Tryz.prog 58 := ⟨Tryz.f58, Tryz.func58, by kernel_rfl, by kernel_rfl⟩
theorem q_qualifiers_Check_en_elements_Get : Enters Tryz.prog 109 := ⟨Tryz.f109, Tryz.func109, by kernel_rfl, by kernel_rfl⟩
theorem q_qualifiers_Check_en_elements_Next : Enters Tryz.prog 121 := ⟨Tryz.f121, Tryz.func121, by kernel_rfl, by kernel_rfl⟩
theorem q_qualifiers_Check_en_elements_Next_1 : Enters Tryz.prog 134 := ⟨Tryz.f134, Tryz.func134, by kernel_rfl, by kernel_rfl⟩
theorem q_qualifiers_Check_en_elements_reader_element : Enters Tryz.prog 135 := ⟨Tryz.f135, Tryz.func135, by kernel_rfl, by kernel_rfl⟩
theorem q_qualifiers_Check_en_tags_Get : Enters Tryz.prog 144 := ⟨Tryz.f144, Tryz.func144, by kernel_rfl, by kernel_rfl⟩
theorem q_qualifiers_Check_en_tags_number : Enters Tryz.prog 151 := ⟨Tryz.f151, Tryz.func151, by kernel_rfl, by kernel_rfl⟩
theorem q_qualifiers_Check_en_lengths_Get : Enters Tryz.prog 145 := ⟨Tryz.f145, Tryz.func145, by kernel_rfl, by kernel_rfl⟩
theorem q_qualifiers_Check_en_bytes_Clone : Enters Tryz.prog 146 := ⟨Tryz.f146, Tryz.func146, by kernel_rfl, by kernel_rfl⟩
theorem q_qualifiers_Check_en_qualifiers_table_7 : Enters Tryz.prog 110 := ⟨Tryz.f110, Tryz.func110, by kernel_rfl, by kernel_rfl⟩
theorem q_qualifiers_Check_en_qualifiers_zero : Enters Tryz.prog 93 := ⟨Tryz.f93, Tryz.func93, by kernel_rfl, by kernel_rfl⟩
theorem q_qualifiers_Check_en_elements_Put : Enters Tryz.prog 96 := ⟨Tryz.f96, Tryz.func96, by kernel_rfl, by kernel_rfl⟩
theorem q_qualifiers_Check_en_elements_Check : Enters Tryz.prog 114 := ⟨Tryz.f114, Tryz.func114, by kernel_rfl, by kernel_rfl⟩
theorem q_qualifiers_Check_en_elements_size : Enters Tryz.prog 115 := ⟨Tryz.f115, Tryz.func115, by kernel_rfl, by kernel_rfl⟩
theorem q_qualifiers_Check_en_elements_put : Enters Tryz.prog 116 := ⟨Tryz.f116, Tryz.func116, by kernel_rfl, by kernel_rfl⟩
noncomputable def q_qualifiers_Check_H : Hints := ⟨[(92, sp_qualifiers_table), (94, sp_qualifiers_ID), (95, sp_oids_Put), (118, sp_charstrings_Element), (123, sp_elements_measure), (124, sp_elements_content), (125, sp_lengths_Total), (126, sp_tags_Size), (127, sp_tags_Put), (128, sp_lengths_Put), (130, sp_charstrings_Check), (131, sp_charstrings_Length), (138, sp_tags_Check)], [(72, Tryz.f72, q_qualifiers_Check_fh_qualifiers_Check), (85, Tryz.f85, q_qualifiers_Check_fh_qualifiers_put), (100, Tryz.f100, q_qualifiers_Check_fh_qualifiers_table_1), (101, Tryz.f101, q_qualifiers_Check_fh_qualifiers_table_2), (102, Tryz.f102, q_qualifiers_Check_fh_qualifiers_table_3), (103, Tryz.f103, q_qualifiers_Check_fh_slices_Clip_byte_byte), (104, Tryz.f104, q_qualifiers_Check_fh_qualifiers_table_4), (105, Tryz.f105, q_qualifiers_Check_fh_qualifiers_notice), (117, Tryz.f117, q_qualifiers_Check_fh_qualifiers_displayed), (129, Tryz.f129, q_qualifiers_Check_fh_slices_Contains_uint32_uint32), (141, Tryz.f141, q_qualifiers_Check_fh_slices_Index_uint32_uint32), (106, Tryz.f106, q_qualifiers_Check_fh_qualifiers_buildNotice), (119, Tryz.f119, q_qualifiers_Check_fh_scalars_PutInt), (133, Tryz.f133, q_qualifiers_Check_fh_scalars_superfluous), (120, Tryz.f120, q_qualifiers_Check_fh_slices_Clip_api_Element_api_Element), (107, Tryz.f107, q_qualifiers_Check_fh_qualifiers_table_5), (108, Tryz.f108, q_qualifiers_Check_fh_qualifiers_table_6), (58, Tryz.f58, q_qualifiers_Check_fh_oids_Check), (109, Tryz.f109, q_qualifiers_Check_fh_elements_Get), (121, Tryz.f121, q_qualifiers_Check_fh_elements_Next), (134, Tryz.f134, q_qualifiers_Check_fh_elements_Next_1), (135, Tryz.f135, q_qualifiers_Check_fh_elements_reader_element), (144, Tryz.f144, q_qualifiers_Check_fh_tags_Get), (151, Tryz.f151, q_qualifiers_Check_fh_tags_number), (145, Tryz.f145, q_qualifiers_Check_fh_lengths_Get), (146, Tryz.f146, q_qualifiers_Check_fh_bytes_Clone), (110, Tryz.f110, q_qualifiers_Check_fh_qualifiers_table_7), (93, Tryz.f93, q_qualifiers_Check_fh_qualifiers_zero), (96, Tryz.f96, q_qualifiers_Check_fh_elements_Put), (114, Tryz.f114, q_qualifiers_Check_fh_elements_Check), (115, Tryz.f115, q_qualifiers_Check_fh_elements_size), (116, Tryz.f116, q_qualifiers_Check_fh_elements_put)], [156, 158, 159, 161, 116]⟩
theorem q_qualifiers_Check_sound {m n : Nat} {ds : List D} {d : D} (h : funD Tryz.prog q_qualifiers_Check_H m n q_qualifiers_Check_fh_qualifiers_Check Tryz.f72 ds = some d) : DataSem Tryz.prog 72 ds d := data_sound (H := q_qualifiers_Check_H) (SpOk.cons ds_qualifiers_table (SpOk.cons ds_qualifiers_ID (SpOk.cons ds_oids_Put (SpOk.cons ds_charstrings_Element (SpOk.cons ds_elements_measure (SpOk.cons ds_elements_content (SpOk.cons ds_lengths_Total (SpOk.cons ds_tags_Size (SpOk.cons ds_tags_Put (SpOk.cons ds_lengths_Put (SpOk.cons ds_charstrings_Check (SpOk.cons ds_charstrings_Length (SpOk.cons ds_tags_Check SpOk.nil))))))))))))) mixed (InlOk.cons Tryz.func72 q_qualifiers_Check_en_qualifiers_Check (InlOk.cons Tryz.func85 q_qualifiers_Check_en_qualifiers_put (InlOk.cons Tryz.func100 q_qualifiers_Check_en_qualifiers_table_1 (InlOk.cons Tryz.func101 q_qualifiers_Check_en_qualifiers_table_2 (InlOk.cons Tryz.func102 q_qualifiers_Check_en_qualifiers_table_3 (InlOk.cons Tryz.func103 q_qualifiers_Check_en_slices_Clip_byte_byte (InlOk.cons Tryz.func104 q_qualifiers_Check_en_qualifiers_table_4 (InlOk.cons Tryz.func105 q_qualifiers_Check_en_qualifiers_notice (InlOk.cons Tryz.func117 q_qualifiers_Check_en_qualifiers_displayed (InlOk.cons Tryz.func129 q_qualifiers_Check_en_slices_Contains_uint32_uint32 (InlOk.cons Tryz.func141 q_qualifiers_Check_en_slices_Index_uint32_uint32 (InlOk.cons Tryz.func106 q_qualifiers_Check_en_qualifiers_buildNotice (InlOk.cons Tryz.func119 q_qualifiers_Check_en_scalars_PutInt (InlOk.cons Tryz.func133 q_qualifiers_Check_en_scalars_superfluous (InlOk.cons Tryz.func120 q_qualifiers_Check_en_slices_Clip_api_Element_api_Element (InlOk.cons Tryz.func107 q_qualifiers_Check_en_qualifiers_table_5 (InlOk.cons Tryz.func108 q_qualifiers_Check_en_qualifiers_table_6 (InlOk.cons Tryz.func58 q_qualifiers_Check_en_oids_Check (InlOk.cons Tryz.func109 q_qualifiers_Check_en_elements_Get (InlOk.cons Tryz.func121 q_qualifiers_Check_en_elements_Next (InlOk.cons Tryz.func134 q_qualifiers_Check_en_elements_Next_1 (InlOk.cons Tryz.func135 q_qualifiers_Check_en_elements_reader_element (InlOk.cons Tryz.func144 q_qualifiers_Check_en_tags_Get (InlOk.cons Tryz.func151 q_qualifiers_Check_en_tags_number (InlOk.cons Tryz.func145 q_qualifiers_Check_en_lengths_Get (InlOk.cons Tryz.func146 q_qualifiers_Check_en_bytes_Clone (InlOk.cons Tryz.func110 q_qualifiers_Check_en_qualifiers_table_7 (InlOk.cons Tryz.func93 q_qualifiers_Check_en_qualifiers_zero (InlOk.cons Tryz.func96 q_qualifiers_Check_en_elements_Put (InlOk.cons Tryz.func114 q_qualifiers_Check_en_elements_Check (InlOk.cons Tryz.func115 q_qualifiers_Check_en_elements_size (InlOk.cons Tryz.func116 q_qualifiers_Check_en_elements_put InlOk.nil)))))))))))))))))))))))))))))))) Tryz.func72 q_qualifiers_Check_en_qualifiers_Check h
def q_qualifiers_Check_a0 : List D := [(D.agg [(D.v (.int .u8 (1 : Int))), (D.v (.string (ByteArray.mk #[104, 116, 116, 112, 58, 47, 47, 97]))), (D.v (.bool false)), (D.v (.int .u32 (0 : Int))), (D.v (.string (ByteArray.mk #[]))), (D.list 0 (some 0) []), (D.v (.bool false)), (D.v (.int .u32 (0 : Int))), (D.v (.string (ByteArray.mk #[]))), (D.v (.int .u8 (0 : Int))), (D.v (.int .u32 (0 : Int))), (D.v (.int .u32 (0 : Int))), (D.v (.int .u32 (0 : Int))), (D.v (.int .u32 (0 : Int))), (D.v (.int .u32 (0 : Int))), (D.v (.int .u32 (0 : Int))), (D.v (.int .u32 (0 : Int))), (D.v (.int .u32 (0 : Int))), (D.v (.int .u32 (0 : Int))), (D.v (.int .u32 (0 : Int))), (D.v (.int .u32 (0 : Int))), (D.v (.int .u32 (0 : Int))), (D.v (.int .u32 (0 : Int))), (D.v (.int .u32 (0 : Int))), (D.v (.int .u32 (0 : Int))), (D.v (.int .u32 (0 : Int))), (D.list 0 (some 0) [])])]
def q_qualifiers_Check_r0 : D := (D.v (.int .i64 (0 : Int)))
def q_qualifiers_Check_a1 : List D := [(D.agg [(D.v (.int .u8 (2 : Int))), (D.v (.string (ByteArray.mk #[]))), (D.v (.bool false)), (D.v (.int .u32 (0 : Int))), (D.v (.string (ByteArray.mk #[]))), (D.list 0 (some 0) []), (D.v (.bool true)), (D.v (.int .u32 (12 : Int))), (D.v (.string (ByteArray.mk #[98]))), (D.v (.int .u8 (0 : Int))), (D.v (.int .u32 (0 : Int))), (D.v (.int .u32 (0 : Int))), (D.v (.int .u32 (0 : Int))), (D.v (.int .u32 (0 : Int))), (D.v (.int .u32 (0 : Int))), (D.v (.int .u32 (0 : Int))), (D.v (.int .u32 (0 : Int))), (D.v (.int .u32 (0 : Int))), (D.v (.int .u32 (0 : Int))), (D.v (.int .u32 (0 : Int))), (D.v (.int .u32 (0 : Int))), (D.v (.int .u32 (0 : Int))), (D.v (.int .u32 (0 : Int))), (D.v (.int .u32 (0 : Int))), (D.v (.int .u32 (0 : Int))), (D.v (.int .u32 (0 : Int))), (D.list 0 (some 0) [])])]
def q_qualifiers_Check_r1 : D := (D.v (.int .i64 (0 : Int)))
theorem q_qualifiers_Check_e0 : funD Tryz.prog q_qualifiers_Check_H 100000 60 q_qualifiers_Check_fh_qualifiers_Check Tryz.f72 q_qualifiers_Check_a0 = some q_qualifiers_Check_r0 := by kernel_rfl
theorem q_qualifiers_Check_e1 : funD Tryz.prog q_qualifiers_Check_H 100000 60 q_qualifiers_Check_fh_qualifiers_Check Tryz.f72 q_qualifiers_Check_a1 = some q_qualifiers_Check_r1 := by kernel_rfl
def sp_qualifiers_Check (ds : List D) : Option D := if isT q_qualifiers_Check_a0 ds then some q_qualifiers_Check_r0 else (if isT q_qualifiers_Check_a1 ds then some q_qualifiers_Check_r1 else (none))
theorem ds_qualifiers_Check : ∀ ds d, sp_qualifiers_Check ds = some d → DataSem Tryz.prog 72 ds d := by
  intro ds d h
  unfold sp_qualifiers_Check at h
  split at h
  · rename_i ha; obtain rfl := isT_eq ha; cases h; exact q_qualifiers_Check_sound q_qualifiers_Check_e0
  split at h
  · rename_i ha; obtain rfl := isT_eq ha; cases h; exact q_qualifiers_Check_sound q_qualifiers_Check_e1
  cases h

end Go.Ev
