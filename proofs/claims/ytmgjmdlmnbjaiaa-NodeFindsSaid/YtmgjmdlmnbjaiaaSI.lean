/- Part of the proof: what functions of the program do, step by step. No condition of its own. -/
import Derived.Test.YtmgjmdlmnbjaiaaMd
import Derived.Test.YtmgjmdlmnbjaiaaProg
import Derived.KernelRfl
set_option linter.unusedVariables false
namespace Go.Proofs.Ytmgjmdlmnbjaiaa.A
open Go Go.AM
abbrev id_main_main : FuncId := 0
abbrev id_gosem_cut : FuncId := 1
abbrev id_gosem_cut_init : FuncId := 2
abbrev id_law07_NodeChecks : FuncId := 3
abbrev id_law07_NodeEncodes : FuncId := 4
abbrev id_law07_NodeOrders : FuncId := 5
abbrev id_law07_NodeFinds : FuncId := 6
abbrev id_law07_NodeDecodes : FuncId := 7
abbrev id_law07_NodeBack : FuncId := 8
abbrev id_law07_NodeApart : FuncId := 9
abbrev id_law07_to : FuncId := 10
abbrev id_law07_nodes : FuncId := 11
abbrev id_node_Check : FuncId := 12
abbrev id_ref07_Check : FuncId := 13
abbrev id_node_IsName : FuncId := 14
abbrev id_ref07_IsName : FuncId := 15
abbrev id_law07_few : FuncId := 16
abbrev id_ref07_DocEncode : FuncId := 17
abbrev id_node_Encode : FuncId := 18
abbrev id_ref07_Same : FuncId := 19
abbrev id_law07_from : FuncId := 20
abbrev id_law07_sorted : FuncId := 21
abbrev id_node_Find : FuncId := 22
abbrev id_node_Ids : FuncId := 23
abbrev id_ref07_DocDecode : FuncId := 24
abbrev id_node_Decode : FuncId := 25
abbrev id_node_within : FuncId := 26
abbrev id_node_Node_fits : FuncId := 27
abbrev id_strings_ContainsAny : FuncId := 28
abbrev id_ref06_Begin : FuncId := 29
abbrev id_ref06_Num : FuncId := 30
abbrev id_ref06_Text : FuncId := 31
abbrev id_glyph_Begin : FuncId := 32
abbrev id_glyph_Out_Num : FuncId := 33
abbrev id_node_Node_put : FuncId := 34
abbrev id_glyph_Out_Bytes : FuncId := 35
abbrev id_slices_IndexFunc : FuncId := 36
abbrev id_node_Find_1 : FuncId := 37
abbrev id_ref06_Open : FuncId := 38
abbrev id_ref06_In_Num : FuncId := 39
abbrev id_ref06_In_Text : FuncId := 40
abbrev id_ref07_id : FuncId := 41
abbrev id_ref06_In_End : FuncId := 42
abbrev id_glyph_Open : FuncId := 43
abbrev id_glyph_In_Num : FuncId := 44
abbrev id_node_get : FuncId := 45
abbrev id_glyph_In_Err : FuncId := 46
abbrev id_glyph_In_End : FuncId := 47
abbrev id_strings_IndexAny : FuncId := 48
abbrev id_glyph_Out_num : FuncId := 49
abbrev id_glyph_Out_Text : FuncId := 50
abbrev id_node_ids : FuncId := 51
abbrev id_bytes_Clone : FuncId := 52
abbrev id_ref06_In_Raw : FuncId := 53
abbrev id_bytes_Equal : FuncId := 54
abbrev id_glyph_In_fail : FuncId := 55
abbrev id_glyph_In_Text : FuncId := 56
abbrev id_node_id : FuncId := 57
abbrev id_strings_IndexRune : FuncId := 58
abbrev id_strings_shouldUseASCIISet : FuncId := 59
abbrev id_strings_makeASCIISet : FuncId := 60
abbrev id_strings_asciiSet_contains : FuncId := 61
abbrev id_glyph_Out_fail : FuncId := 62
abbrev id_glyph_Out_Raw : FuncId := 63
abbrev id_glyph_In_Raw : FuncId := 64
abbrev id_strings_IndexByte : FuncId := 65
abbrev id_utf8_ValidRune : FuncId := 66
abbrev id_bytealg_Cutover : FuncId := 67
abbrev id_bytealg_IndexString : FuncId := 68
abbrev id_stringslite_IndexByte : FuncId := 69
abbrev id_bytealg_IndexByteString : FuncId := 70
abbrev id_runtime_boundsError_Error : FuncId := 71
abbrev id_runtime_boundsError_RuntimeError : FuncId := 72
abbrev id_runtime_errorString_Error : FuncId := 73
abbrev id_runtime_errorString_RuntimeError : FuncId := 74
abbrev id_runtime_plainError_Error : FuncId := 75
abbrev id_runtime_plainError_RuntimeError : FuncId := 76
abbrev id_runtime_errorAddressString_Error : FuncId := 77
abbrev id_runtime_errorAddressString_RuntimeError : FuncId := 78
abbrev id_runtime_TypeAssertionError_Error : FuncId := 79
abbrev id_runtime_TypeAssertionError_RuntimeError : FuncId := 80
abbrev id_runtime_PanicNilError_Error : FuncId := 81
abbrev id_runtime_PanicNilError_RuntimeError : FuncId := 82
abbrev id_abi_Type_Align : FuncId := 83
abbrev id_maps_unhashableTypeError_Error : FuncId := 84
abbrev id_maps_unhashableTypeError_RuntimeError : FuncId := 85
abbrev id_ref06_In_Flag : FuncId := 86
abbrev id_glyph_In_Flag : FuncId := 87
abbrev id_abi_Kind_String : FuncId := 88

end Go.Proofs.Ytmgjmdlmnbjaiaa.A
